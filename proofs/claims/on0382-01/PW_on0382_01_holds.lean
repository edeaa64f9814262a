import PyProof.Rows.All
import Wide.All
import OpenK.AllK
import Wide.FinOn
import PySem.Challenge.RW_on0382_01
set_option genSizeOf false
set_option genInjectivity false
set_option linter.all false
noncomputable section
set_option Elab.async false
set_option maxRecDepth 100000
/-! printed by gen_k.lean: the part of the top's heap that the law reaches; the texts of the defs are read off the row's program -/
open PySem PySem.W PyProof.Rows
namespace Mine
noncomputable abbrev pw : Program := PySem.Challenge.pw_on0382_01
noncomputable def stAt (i : Nat) : Stmt := pw.main.body.getD i default
noncomputable def fnOfSt : Stmt → Arguments × List Stmt × Scope
  | .FunctionDef _ a b _ _ _ sc _ _ _ => (a, b, sc)
  | _ => default
noncomputable def bodyOfCls : Stmt → List Stmt
  | .ClassDef _ _ _ b _ _ _ _ _ _ _ => b
  | _ => []
noncomputable def fnT (i : Nat) : Arguments × List Stmt × Scope := fnOfSt (stAt i)
noncomputable def fnM (i j : Nat) : Arguments × List Stmt × Scope := fnOfSt ((bodyOfCls (stAt i)).getD j default)
noncomputable def kE (P : Params) (x : Str) (t : Tok) (v : Value) : DictEntry := ⟨PyData.keyHash P x, .str x t, v⟩
noncomputable def fnD (name qual : Str) (t : Arguments × List Stmt × Scope) (d kd m c : Value) : FuncData :=
  { name := name, qualname := qual, params := t.1, body := .stmts t.2.1, scope := t.2.2, globals := 3, closure := [], defaults := d, kwdefaults := kd, doc := .none, pyModule := m, annotations := none, code := c, closureTuple := .none, builtins := 0 }
noncomputable def clD (name : Str) (bases mro : List Value) (ns : Addr) : ClassData := { name := name, bases := bases, mro := mro, ns := ns, qualname := name, hasDict := true, slotNames := [], subclasses := [], abstract := false, collection := none, hasDel := false }
noncomputable def o3 (P : Params) : Obj := ⟨(.type "dict"), none, (.dict [(kE P (Str.ofString "__name__") 165 (.str (Str.ofString "law_on0382_01") 1175)), (kE P (Str.ofString "__doc__") 166 .none), (kE P (Str.ofString "__package__") 167 .none), (kE P (Str.ofString "__loader__") 168 (.builtin "__main__.__loader__#opaque")), (kE P (Str.ofString "__spec__") 169 .none), (kE P (Str.ofString "__annotations__") 170 (.ref 6)), (kE P (Str.ofString "__builtins__") 171 (.ref 4)), (kE P (Str.ofString "__file__") 173 (.str (Str.ofString "/claim/cut.py") 172)), (kE P (Str.ofString "__cached__") 174 .none), (kE P (Str.ofString "_wall") 193 (.ref 21)), (kE P (Str.ofString "MAX_CODE") 197 (.int 1114111 196)), (kE P (Str.ofString "UniError") 226 (.ref 39)), (kE P (Str.ofString "BadTable") 242 (.ref 52)), (kE P (Str.ofString "place_by_half") 253 (.ref 61)), (kE P (Str.ofString "SYLLABLE_FIRST") 257 (.int 44032 256)), (kE P (Str.ofString "LEAD_FIRST") 259 (.int 4352 258)), (kE P (Str.ofString "VOWEL_FIRST") 261 (.int 4449 260)), (kE P (Str.ofString "TAIL_NONE") 263 (.int 4519 262)), (kE P (Str.ofString "LEADS") 265 (.int 19 264)), (kE P (Str.ofString "VOWELS") 267 (.int 21 266)), (kE P (Str.ofString "TAILS") 269 (.int 28 268)), (kE P (Str.ofString "SYLLABLES") 272 (.int 11172 271)), (kE P (Str.ofString "is_hangul_syllable") 279 (.ref 68)), (kE P (Str.ofString "hangul_numbers") 287 (.ref 75)), (kE P (Str.ofString "hangul_parts") 297 (.ref 82)), (kE P (Str.ofString "hangul_pair") 307 (.ref 89)), (kE P (Str.ofString "form_mapping") 320 (.ref 96)), (kE P (Str.ofString "form_expanded") 335 (.ref 103)), (kE P (Str.ofString "ordered") 347 (.ref 110)), (kE P (Str.ofString "form_sorted") 353 (.ref 115)), (kE P (Str.ofString "decomposed") 364 (.ref 123)), (kE P (Str.ofString "primary_composites") 376 (.ref 130)), (kE P (Str.ofString "form_is_primary") 385 (.ref 137)), (kE P (Str.ofString "Composer") 435 (.ref 168)), (kE P (Str.ofString "composed") 450 (.ref 180)), (kE P (Str.ofString "form_of") 461 (.ref 188)), (kE P (Str.ofString "nfd") 469 (.ref 195)), (kE P (Str.ofString "COLLKEY_TOP") 473 (.int 65535 472)), (kE P (Str.ofString "COLLKEY_SECOND") 475 (.int 32 474)), (kE P (Str.ofString "COLLKEY_THIRD") 477 (.int 2 476)), (kE P (Str.ofString "COLLKEY_FIGURES") 479 (.int 254 478)), (kE P (Str.ofString "CollOptions") 528 (.ref 214)), (kE P (Str.ofString "collkey_blanked") 542 (.ref 225)), (kE P (Str.ofString "collkey_shifted") 556 (.ref 232)), (kE P (Str.ofString "weighted") 572 (.ref 240)), (kE P (Str.ofString "is_upper_third") 582 (.ref 248)), (kE P (Str.ofString "collkey_first") 588 (.ref 253)), (kE P (Str.ofString "collkey_second") 594 (.ref 258)), (kE P (Str.ofString "collkey_case") 600 (.ref 263)), (kE P (Str.ofString "collkey_third") 606 (.ref 268)), (kE P (Str.ofString "collkey_fourth") 612 (.ref 273)), (kE P (Str.ofString "collkey_levels") 621 (.ref 280)), (kE P (Str.ofString "collkey_level") 631 (.ref 287)), (kE P (Str.ofString "weights_key") 637 (.ref 293)), (kE P (Str.ofString "elements_for") 647 (.ref 300)), (kE P (Str.ofString "sort_key") 658 (.ref 307)), (kE P (Str.ofString "compare_lists") 667 (.ref 314)), (kE P (Str.ofString "compare_weights") 680 (.ref 321)), (kE P (Str.ofString "compare") 694 (.ref 328)), (kE P (Str.ofString "collkey_digit") 703 (.ref 335)), (kE P (Str.ofString "collkey_figures") 709 (.ref 340)), (kE P (Str.ofString "numbered_elements") 715 (.ref 345)), (kE P (Str.ofString "key_levels") 724 (.ref 352)), (kE P (Str.ofString "merged_keys") 730 (.ref 357)), (kE P (Str.ofString "prefix_bounds") 742 (.ref 364)), (kE P (Str.ofString "COLL_SECONDARY") 746 (.int 32 745)), (kE P (Str.ofString "COLL_TERTIARY") 748 (.int 2 747)), (kE P (Str.ofString "COLL_OTHERS") 750 (.int 64448 749)), (kE P (Str.ofString "COLL_CORE") 752 (.int 64320 751)), (kE P (Str.ofString "COLL_EXTENSIONS") 754 (.int 64384 753)), (kE P (Str.ofString "COLL_REST_BIT") 756 (.int 32768 755)), (kE P (Str.ofString "COLL_REST_MASK") 758 (.int 32767 757)), (kE P (Str.ofString "COLL_REST_SHIFT") 760 (.int 15 759)), (kE P (Str.ofString "coll_ideographs") 769 (.ref 371)), (kE P (Str.ofString "CollBase") 814 (.ref 396)), (kE P (Str.ofString "coll_scaled") 820 (.ref 405)), (kE P (Str.ofString "CollMatch") 853 (.ref 422)), (kE P (Str.ofString "Elements") 999 (.ref 528)), (kE P (Str.ofString "coll_live") 1009 (.ref 539)), (kE P (Str.ofString "coll_decomposed") 1015 (.ref 544)), (kE P (Str.ofString "range_are_like") 1025 (.ref 551)), (kE P (Str.ofString "RangeMap") 1093 (.ref 594)), (kE P (Str.ofString "range_rows") 1105 (.ref 605)), (kE P (Str.ofString "data_defaults") 1115 (.ref 612)), (kE P (Str.ofString "Data") 1174 (.ref 650)), (kE P (Str.ofString "_law_signs") 1185 (.ref 655)), (kE P (Str.ofString "_law_deck") 1191 (.ref 660)), (kE P (Str.ofString "_law_draw") 1199 (.ref 667)), (kE P (Str.ofString "_law_tables") 1210 (.ref 674)), (kE P (Str.ofString "_law_tokens") 1220 (.ref 681)), (kE P (Str.ofString "_law_weights") 1226 (.ref 686)), (kE P (Str.ofString "_law_levels") 1232 (.ref 691)), (kE P (Str.ofString "_law_key") 1241 (.ref 698)), (kE P (Str.ofString "_law_sign") 1249 (.ref 705)), (kE P (Str.ofString "law") 1255 (.ref 710))].toArray 95), [].toArray⟩
noncomputable def o60 (P : Params) : Obj := ⟨(.type "code"), none, (.fields [(.str (Str.ofString "place_by_half") 243), (.str (Str.ofString "place_by_half") 244), (.str (Str.ofString "/claim/cut.py") 245), (.int 12 0), (.int 2 0), (.int 0 0), (.int 0 0), (.int 3 0), (.ref 55), (.bool true), (.int 181 0), (.ref 56), .none, (.ref 57), (.ref 58), (.ref 59), (.int 251 0), (.int 12 0), (.str (Str.ofString "/claim/cut.py") 252)].toArray), [].toArray⟩
noncomputable def o61 (P : Params) : Obj := ⟨(.type "function"), none, (.func (fnD (Str.ofString "place_by_half") (Str.ofString "place_by_half") (fnT 5) .none .none (.str (Str.ofString "unicore.base") 194) (.ref 60))), [].toArray⟩
noncomputable def o67 (P : Params) : Obj := ⟨(.type "code"), none, (.fields [(.str (Str.ofString "is_hangul_syllable") 273), (.str (Str.ofString "is_hangul_syllable") 274), (.str (Str.ofString "/claim/cut.py") 275), (.int 31 0), (.int 1 0), (.int 0 0), (.int 0 0), (.int 3 0), (.ref 62), (.bool true), (.int 181 0), (.ref 63), .none, (.ref 64), (.ref 65), (.ref 66), (.int 277 0), (.int 31 0), (.str (Str.ofString "/claim/cut.py") 278)].toArray), [].toArray⟩
noncomputable def o68 (P : Params) : Obj := ⟨(.type "function"), none, (.func (fnD (Str.ofString "is_hangul_syllable") (Str.ofString "is_hangul_syllable") (fnT 15) .none .none (.str (Str.ofString "unicore.hangul") 254) (.ref 67))), [].toArray⟩
noncomputable def o81 (P : Params) : Obj := ⟨(.type "code"), none, (.fields [(.str (Str.ofString "hangul_parts") 288), (.str (Str.ofString "hangul_parts") 289), (.str (Str.ofString "/claim/cut.py") 290), (.int 36 0), (.int 1 0), (.int 0 0), (.int 0 0), (.int 3 0), (.ref 76), (.bool true), (.int 181 0), (.ref 77), .none, (.ref 78), (.ref 79), (.ref 80), (.int 295 0), (.int 36 0), (.str (Str.ofString "/claim/cut.py") 296)].toArray), [].toArray⟩
noncomputable def o82 (P : Params) : Obj := ⟨(.type "function"), none, (.func (fnD (Str.ofString "hangul_parts") (Str.ofString "hangul_parts") (fnT 17) .none .none (.str (Str.ofString "unicore.hangul") 254) (.ref 81))), [].toArray⟩
noncomputable def o95 (P : Params) : Obj := ⟨(.type "code"), none, (.fields [(.str (Str.ofString "form_mapping") 310), (.str (Str.ofString "form_mapping") 311), (.str (Str.ofString "/claim/cut.py") 312), (.int 52 0), (.int 3 0), (.int 0 0), (.int 0 0), (.int 3 0), (.ref 90), (.bool true), (.int 181 0), (.ref 91), .none, (.ref 92), (.ref 93), (.ref 94), (.int 318 0), (.int 52 0), (.str (Str.ofString "/claim/cut.py") 319)].toArray), [].toArray⟩
noncomputable def o96 (P : Params) : Obj := ⟨(.type "function"), none, (.func (fnD (Str.ofString "form_mapping") (Str.ofString "form_mapping") (fnT 20) .none .none (.str (Str.ofString "unicore.forms") 308) (.ref 95))), [].toArray⟩
noncomputable def o102 (P : Params) : Obj := ⟨(.type "code"), none, (.fields [(.str (Str.ofString "form_expanded") 321), (.str (Str.ofString "form_expanded") 322), (.str (Str.ofString "/claim/cut.py") 323), (.int 60 0), (.int 3 0), (.int 0 0), (.int 0 0), (.int 3 0), (.ref 97), (.bool true), (.int 181 0), (.ref 98), .none, (.ref 99), (.ref 100), (.ref 101), (.int 333 0), (.int 60 0), (.str (Str.ofString "/claim/cut.py") 334)].toArray), [].toArray⟩
noncomputable def o103 (P : Params) : Obj := ⟨(.type "function"), none, (.func (fnD (Str.ofString "form_expanded") (Str.ofString "form_expanded") (fnT 21) .none .none (.str (Str.ofString "unicore.forms") 308) (.ref 102))), [].toArray⟩
noncomputable def o109 (P : Params) : Obj := ⟨(.type "code"), none, (.fields [(.str (Str.ofString "ordered") 336), (.str (Str.ofString "ordered") 337), (.str (Str.ofString "/claim/cut.py") 338), (.int 79 0), (.int 2 0), (.int 0 0), (.int 0 0), (.int 3 0), (.ref 104), (.bool true), (.int 181 0), (.ref 105), .none, (.ref 106), (.ref 107), (.ref 108), (.int 345 0), (.int 79 0), (.str (Str.ofString "/claim/cut.py") 346)].toArray), [].toArray⟩
noncomputable def o110 (P : Params) : Obj := ⟨(.type "function"), none, (.func (fnD (Str.ofString "ordered") (Str.ofString "ordered") (fnT 22) .none .none (.str (Str.ofString "unicore.forms") 308) (.ref 109))), [].toArray⟩
noncomputable def o112 (P : Params) : Obj := ⟨.none, none, (.fields [].toArray), [].toArray⟩
noncomputable def o114 (P : Params) : Obj := ⟨(.type "code"), none, (.fields [(.str (Str.ofString "form_sorted") 348), (.str (Str.ofString "form_sorted") 349), (.str (Str.ofString "/claim/cut.py") 350), (.int 91 0), (.int 1 0), (.int 0 0), (.int 0 0), (.int 3 0), (.ref 111), (.bool true), (.int 181 0), (.ref 112), .none, .none, .none, (.ref 113), (.int 351 0), (.int 91 0), (.str (Str.ofString "/claim/cut.py") 352)].toArray), [].toArray⟩
noncomputable def o115 (P : Params) : Obj := ⟨(.type "function"), none, (.func (fnD (Str.ofString "form_sorted") (Str.ofString "form_sorted") (fnT 23) .none .none (.str (Str.ofString "unicore.forms") 308) (.ref 114))), [].toArray⟩
noncomputable def o116 (P : Params) : Obj := ⟨(.type "tuple"), none, (.seq [(.bool false)].toArray 0), [].toArray⟩
noncomputable def o122 (P : Params) : Obj := ⟨(.type "code"), none, (.fields [(.str (Str.ofString "decomposed") 354), (.str (Str.ofString "decomposed") 355), (.str (Str.ofString "/claim/cut.py") 356), (.int 93 0), (.int 3 0), (.int 0 0), (.int 0 0), (.int 3 0), (.ref 117), (.bool true), (.int 181 0), (.ref 118), .none, (.ref 119), (.ref 120), (.ref 121), (.int 362 0), (.int 93 0), (.str (Str.ofString "/claim/cut.py") 363)].toArray), [].toArray⟩
noncomputable def o123 (P : Params) : Obj := ⟨(.type "function"), none, (.func (fnD (Str.ofString "decomposed") (Str.ofString "decomposed") (fnT 24) (.ref 116) .none (.str (Str.ofString "unicore.forms") 308) (.ref 122))), [].toArray⟩
noncomputable def o181 (P : Params) : Obj := ⟨(.type "tuple"), none, (.seq [.none].toArray 0), [].toArray⟩
noncomputable def o187 (P : Params) : Obj := ⟨(.type "code"), none, (.fields [(.str (Str.ofString "form_of") 451), (.str (Str.ofString "form_of") 452), (.str (Str.ofString "/claim/cut.py") 453), (.int 141 0), (.int 4 0), (.int 0 0), (.int 0 0), (.int 3 0), (.ref 182), (.bool true), (.int 181 0), (.ref 183), .none, (.ref 184), (.ref 185), (.ref 186), (.int 459 0), (.int 141 0), (.str (Str.ofString "/claim/cut.py") 460)].toArray), [].toArray⟩
noncomputable def o188 (P : Params) : Obj := ⟨(.type "function"), none, (.func (fnD (Str.ofString "form_of") (Str.ofString "form_of") (fnT 29) (.ref 181) .none (.str (Str.ofString "unicore.forms") 308) (.ref 187))), [].toArray⟩
noncomputable def o194 (P : Params) : Obj := ⟨(.type "code"), none, (.fields [(.str (Str.ofString "nfd") 462), (.str (Str.ofString "nfd") 463), (.str (Str.ofString "/claim/cut.py") 464), (.int 144 0), (.int 2 0), (.int 0 0), (.int 0 0), (.int 3 0), (.ref 189), (.bool true), (.int 181 0), (.ref 190), .none, (.ref 191), (.ref 192), (.ref 193), (.int 467 0), (.int 144 0), (.str (Str.ofString "/claim/cut.py") 468)].toArray), [].toArray⟩
noncomputable def o195 (P : Params) : Obj := ⟨(.type "function"), none, (.func (fnD (Str.ofString "nfd") (Str.ofString "nfd") (fnT 30) .none .none (.str (Str.ofString "unicore.forms") 308) (.ref 194))), [].toArray⟩
noncomputable def o203 (P : Params) : Obj := ⟨(.type "tuple"), none, (.seq [(.int 1 495), (.int 1 496), (.int 1 497)].toArray 0), [].toArray⟩
noncomputable def o204 (P : Params) : Obj := ⟨(.type "tuple"), none, (.seq [(.str (Str.ofString "shifted") 492), (.int 3 493), (.bool false), (.str (Str.ofString "") 494), (.bool false), (.bool false), .none, (.ref 203)].toArray 0), [].toArray⟩
noncomputable def o210 (P : Params) : Obj := ⟨(.type "code"), none, (.fields [(.str (Str.ofString "__init__") 498), (.str (Str.ofString "CollOptions.__init__") 499), (.str (Str.ofString "/claim/cut.py") 500), (.int 153 0), (.int 9 0), (.int 0 0), (.int 0 0), (.int 3 0), (.ref 205), (.bool true), (.int 181 0), (.ref 206), .none, (.ref 207), (.ref 208), (.ref 209), (.int 510 0), (.int 153 0), (.str (Str.ofString "/claim/cut.py") 511)].toArray), [].toArray⟩
noncomputable def o211 (P : Params) : Obj := ⟨(.type "function"), none, (.func (fnD (Str.ofString "__init__") (Str.ofString "CollOptions.__init__") (fnM 36 0) (.ref 204) .none (.str (Str.ofString "unicore.collkeys") 470) (.ref 210))), [].toArray⟩
noncomputable def o213 (P : Params) : Obj := ⟨(.type "dict"), none, (.dict [(kE P (Str.ofString "__module__") 487 (.str (Str.ofString "unicore.collkeys") 470)), (kE P (Str.ofString "__firstlineno__") 491 (.int 151 490)), (kE P (Str.ofString "__init__") 512 (.ref 211)), (kE P (Str.ofString "__static_attributes__") 521 (.ref 212)), (kE P (Str.ofString "__dict__") 523 (.ref 215)), (kE P (Str.ofString "__weakref__") 525 (.ref 216)), (kE P (Str.ofString "__doc__") 526 .none)].toArray 4), [].toArray⟩
noncomputable def o214 (P : Params) : Obj := ⟨(.type "type"), none, (.cls (clD (Str.ofString "CollOptions") [(.type "object")] [(.ref 214), (.type "object")] 213)), [none, none, (some (.str (Str.ofString "CollOptions") 480)), (some (.str (Str.ofString "CollOptions") 488)), (some (.builtin "object.__new__")), (some (.bool true))].toArray⟩
noncomputable def o215 (P : Params) : Obj := ⟨(.type "getset_descriptor"), none, (.fields [(.str (Str.ofString "__dict__") 522), (.ref 214), (.builtin "function.__dict__"), (.builtin "function.__dict__#set")].toArray), [].toArray⟩
noncomputable def o216 (P : Params) : Obj := ⟨(.type "getset_descriptor"), none, (.fields [(.str (Str.ofString "__weakref__") 524), (.ref 214), (.builtin "ExceptionGroup.__weakref__"), .none].toArray), [].toArray⟩
noncomputable def o233 (P : Params) : Obj := ⟨(.type "tuple"), none, (.seq [(.int 1 557)].toArray 0), [].toArray⟩
noncomputable def o239 (P : Params) : Obj := ⟨(.type "code"), none, (.fields [(.str (Str.ofString "weighted") 558), (.str (Str.ofString "weighted") 559), (.str (Str.ofString "/claim/cut.py") 560), (.int 184 0), (.int 3 0), (.int 0 0), (.int 0 0), (.int 3 0), (.ref 234), (.bool true), (.int 181 0), (.ref 235), .none, (.ref 236), (.ref 237), (.ref 238), (.int 570 0), (.int 184 0), (.str (Str.ofString "/claim/cut.py") 571)].toArray), [].toArray⟩
noncomputable def o240 (P : Params) : Obj := ⟨(.type "function"), none, (.func (fnD (Str.ofString "weighted") (Str.ofString "weighted") (fnT 39) (.ref 233) .none (.str (Str.ofString "unicore.collkeys") 470) (.ref 239))), [].toArray⟩
noncomputable def o241 (P : Params) : Obj := ⟨(.type "tuple"), none, (.seq [(.int 1 573)].toArray 0), [].toArray⟩
noncomputable def o247 (P : Params) : Obj := ⟨(.type "code"), none, (.fields [(.str (Str.ofString "is_upper_third") 574), (.str (Str.ofString "is_upper_third") 575), (.str (Str.ofString "/claim/cut.py") 576), (.int 194 0), (.int 2 0), (.int 0 0), (.int 0 0), (.int 3 0), (.ref 242), (.bool true), (.int 181 0), (.ref 243), .none, (.ref 244), (.ref 245), (.ref 246), (.int 580 0), (.int 194 0), (.str (Str.ofString "/claim/cut.py") 581)].toArray), [].toArray⟩
noncomputable def o248 (P : Params) : Obj := ⟨(.type "function"), none, (.func (fnD (Str.ofString "is_upper_third") (Str.ofString "is_upper_third") (fnT 40) (.ref 241) .none (.str (Str.ofString "unicore.collkeys") 470) (.ref 247))), [].toArray⟩
noncomputable def o252 (P : Params) : Obj := ⟨(.type "code"), none, (.fields [(.str (Str.ofString "collkey_first") 583), (.str (Str.ofString "collkey_first") 584), (.str (Str.ofString "/claim/cut.py") 585), (.int 197 0), (.int 2 0), (.int 0 0), (.int 0 0), (.int 3 0), (.ref 249), (.bool true), (.int 181 0), (.ref 250), .none, .none, .none, (.ref 251), (.int 586 0), (.int 197 0), (.str (Str.ofString "/claim/cut.py") 587)].toArray), [].toArray⟩
noncomputable def o253 (P : Params) : Obj := ⟨(.type "function"), none, (.func (fnD (Str.ofString "collkey_first") (Str.ofString "collkey_first") (fnT 41) .none .none (.str (Str.ofString "unicore.collkeys") 470) (.ref 252))), [].toArray⟩
noncomputable def o257 (P : Params) : Obj := ⟨(.type "code"), none, (.fields [(.str (Str.ofString "collkey_second") 589), (.str (Str.ofString "collkey_second") 590), (.str (Str.ofString "/claim/cut.py") 591), (.int 200 0), (.int 2 0), (.int 0 0), (.int 0 0), (.int 3 0), (.ref 254), (.bool true), (.int 181 0), (.ref 255), .none, .none, .none, (.ref 256), (.int 592 0), (.int 200 0), (.str (Str.ofString "/claim/cut.py") 593)].toArray), [].toArray⟩
noncomputable def o258 (P : Params) : Obj := ⟨(.type "function"), none, (.func (fnD (Str.ofString "collkey_second") (Str.ofString "collkey_second") (fnT 42) .none .none (.str (Str.ofString "unicore.collkeys") 470) (.ref 257))), [].toArray⟩
noncomputable def o262 (P : Params) : Obj := ⟨(.type "code"), none, (.fields [(.str (Str.ofString "collkey_case") 595), (.str (Str.ofString "collkey_case") 596), (.str (Str.ofString "/claim/cut.py") 597), (.int 203 0), (.int 2 0), (.int 0 0), (.int 0 0), (.int 3 0), (.ref 259), (.bool true), (.int 181 0), (.ref 260), .none, .none, .none, (.ref 261), (.int 598 0), (.int 203 0), (.str (Str.ofString "/claim/cut.py") 599)].toArray), [].toArray⟩
noncomputable def o263 (P : Params) : Obj := ⟨(.type "function"), none, (.func (fnD (Str.ofString "collkey_case") (Str.ofString "collkey_case") (fnT 43) .none .none (.str (Str.ofString "unicore.collkeys") 470) (.ref 262))), [].toArray⟩
noncomputable def o267 (P : Params) : Obj := ⟨(.type "code"), none, (.fields [(.str (Str.ofString "collkey_third") 601), (.str (Str.ofString "collkey_third") 602), (.str (Str.ofString "/claim/cut.py") 603), (.int 206 0), (.int 2 0), (.int 0 0), (.int 0 0), (.int 3 0), (.ref 264), (.bool true), (.int 181 0), (.ref 265), .none, .none, .none, (.ref 266), (.int 604 0), (.int 206 0), (.str (Str.ofString "/claim/cut.py") 605)].toArray), [].toArray⟩
noncomputable def o268 (P : Params) : Obj := ⟨(.type "function"), none, (.func (fnD (Str.ofString "collkey_third") (Str.ofString "collkey_third") (fnT 44) .none .none (.str (Str.ofString "unicore.collkeys") 470) (.ref 267))), [].toArray⟩
noncomputable def o279 (P : Params) : Obj := ⟨(.type "code"), none, (.fields [(.str (Str.ofString "collkey_levels") 613), (.str (Str.ofString "collkey_levels") 614), (.str (Str.ofString "/claim/cut.py") 615), (.int 218 0), (.int 2 0), (.int 0 0), (.int 0 0), (.int 3 0), (.ref 274), (.bool true), (.int 181 0), (.ref 275), .none, (.ref 276), (.ref 277), (.ref 278), (.int 619 0), (.int 218 0), (.str (Str.ofString "/claim/cut.py") 620)].toArray), [].toArray⟩
noncomputable def o280 (P : Params) : Obj := ⟨(.type "function"), none, (.func (fnD (Str.ofString "collkey_levels") (Str.ofString "collkey_levels") (fnT 46) .none .none (.str (Str.ofString "unicore.collkeys") 470) (.ref 279))), [].toArray⟩
noncomputable def o286 (P : Params) : Obj := ⟨(.type "code"), none, (.fields [(.str (Str.ofString "collkey_level") 622), (.str (Str.ofString "collkey_level") 623), (.str (Str.ofString "/claim/cut.py") 624), (.int 229 0), (.int 3 0), (.int 0 0), (.int 0 0), (.int 3 0), (.ref 281), (.bool true), (.int 181 0), (.ref 282), .none, (.ref 283), (.ref 284), (.ref 285), (.int 629 0), (.int 229 0), (.str (Str.ofString "/claim/cut.py") 630)].toArray), [].toArray⟩
noncomputable def o287 (P : Params) : Obj := ⟨(.type "function"), none, (.func (fnD (Str.ofString "collkey_level") (Str.ofString "collkey_level") (fnT 47) .none .none (.str (Str.ofString "unicore.collkeys") 470) (.ref 286))), [].toArray⟩
noncomputable def o288 (P : Params) : Obj := ⟨(.type "tuple"), none, (.seq [.none].toArray 0), [].toArray⟩
noncomputable def o292 (P : Params) : Obj := ⟨(.type "code"), none, (.fields [(.str (Str.ofString "weights_key") 632), (.str (Str.ofString "weights_key") 633), (.str (Str.ofString "/claim/cut.py") 634), (.int 248 0), (.int 3 0), (.int 0 0), (.int 0 0), (.int 3 0), (.ref 289), (.bool true), (.int 181 0), (.ref 290), .none, .none, .none, (.ref 291), (.int 635 0), (.int 248 0), (.str (Str.ofString "/claim/cut.py") 636)].toArray), [].toArray⟩
noncomputable def o293 (P : Params) : Obj := ⟨(.type "function"), none, (.func (fnD (Str.ofString "weights_key") (Str.ofString "weights_key") (fnT 48) (.ref 288) .none (.str (Str.ofString "unicore.collkeys") 470) (.ref 292))), [].toArray⟩
noncomputable def o299 (P : Params) : Obj := ⟨(.type "code"), none, (.fields [(.str (Str.ofString "elements_for") 638), (.str (Str.ofString "elements_for") 639), (.str (Str.ofString "/claim/cut.py") 640), (.int 259 0), (.int 4 0), (.int 0 0), (.int 0 0), (.int 3 0), (.ref 294), (.bool true), (.int 181 0), (.ref 295), .none, (.ref 296), (.ref 297), (.ref 298), (.int 645 0), (.int 259 0), (.str (Str.ofString "/claim/cut.py") 646)].toArray), [].toArray⟩
noncomputable def o300 (P : Params) : Obj := ⟨(.type "function"), none, (.func (fnD (Str.ofString "elements_for") (Str.ofString "elements_for") (fnT 49) .none .none (.str (Str.ofString "unicore.collkeys") 470) (.ref 299))), [].toArray⟩
noncomputable def o306 (P : Params) : Obj := ⟨(.type "code"), none, (.fields [(.str (Str.ofString "sort_key") 648), (.str (Str.ofString "sort_key") 649), (.str (Str.ofString "/claim/cut.py") 650), (.int 261 0), (.int 4 0), (.int 0 0), (.int 0 0), (.int 3 0), (.ref 301), (.bool true), (.int 181 0), (.ref 302), .none, (.ref 303), (.ref 304), (.ref 305), (.int 656 0), (.int 261 0), (.str (Str.ofString "/claim/cut.py") 657)].toArray), [].toArray⟩
noncomputable def o307 (P : Params) : Obj := ⟨(.type "function"), none, (.func (fnD (Str.ofString "sort_key") (Str.ofString "sort_key") (fnT 50) .none .none (.str (Str.ofString "unicore.collkeys") 470) (.ref 306))), [].toArray⟩
noncomputable def o313 (P : Params) : Obj := ⟨(.type "code"), none, (.fields [(.str (Str.ofString "compare_lists") 659), (.str (Str.ofString "compare_lists") 660), (.str (Str.ofString "/claim/cut.py") 661), (.int 264 0), (.int 2 0), (.int 0 0), (.int 0 0), (.int 3 0), (.ref 308), (.bool true), (.int 181 0), (.ref 309), .none, (.ref 310), (.ref 311), (.ref 312), (.int 665 0), (.int 264 0), (.str (Str.ofString "/claim/cut.py") 666)].toArray), [].toArray⟩
noncomputable def o314 (P : Params) : Obj := ⟨(.type "function"), none, (.func (fnD (Str.ofString "compare_lists") (Str.ofString "compare_lists") (fnT 51) .none .none (.str (Str.ofString "unicore.collkeys") 470) (.ref 313))), [].toArray⟩
noncomputable def o320 (P : Params) : Obj := ⟨(.type "code"), none, (.fields [(.str (Str.ofString "compare_weights") 668), (.str (Str.ofString "compare_weights") 669), (.str (Str.ofString "/claim/cut.py") 670), (.int 271 0), (.int 3 0), (.int 0 0), (.int 0 0), (.int 3 0), (.ref 315), (.bool true), (.int 181 0), (.ref 316), .none, (.ref 317), (.ref 318), (.ref 319), (.int 678 0), (.int 271 0), (.str (Str.ofString "/claim/cut.py") 679)].toArray), [].toArray⟩
noncomputable def o321 (P : Params) : Obj := ⟨(.type "function"), none, (.func (fnD (Str.ofString "compare_weights") (Str.ofString "compare_weights") (fnT 52) .none .none (.str (Str.ofString "unicore.collkeys") 470) (.ref 320))), [].toArray⟩
noncomputable def o327 (P : Params) : Obj := ⟨(.type "code"), none, (.fields [(.str (Str.ofString "compare") 681), (.str (Str.ofString "compare") 682), (.str (Str.ofString "/claim/cut.py") 683), (.int 280 0), (.int 5 0), (.int 0 0), (.int 0 0), (.int 3 0), (.ref 322), (.bool true), (.int 181 0), (.ref 323), .none, (.ref 324), (.ref 325), (.ref 326), (.int 692 0), (.int 280 0), (.str (Str.ofString "/claim/cut.py") 693)].toArray), [].toArray⟩
noncomputable def o328 (P : Params) : Obj := ⟨(.type "function"), none, (.func (fnD (Str.ofString "compare") (Str.ofString "compare") (fnT 53) .none .none (.str (Str.ofString "unicore.collkeys") 470) (.ref 327))), [].toArray⟩
noncomputable def o334 (P : Params) : Obj := ⟨(.type "code"), none, (.fields [(.str (Str.ofString "collkey_digit") 695), (.str (Str.ofString "collkey_digit") 696), (.str (Str.ofString "/claim/cut.py") 697), (.int 287 0), (.int 2 0), (.int 0 0), (.int 0 0), (.int 3 0), (.ref 329), (.bool true), (.int 181 0), (.ref 330), .none, (.ref 331), (.ref 332), (.ref 333), (.int 701 0), (.int 287 0), (.str (Str.ofString "/claim/cut.py") 702)].toArray), [].toArray⟩
noncomputable def o335 (P : Params) : Obj := ⟨(.type "function"), none, (.func (fnD (Str.ofString "collkey_digit") (Str.ofString "collkey_digit") (fnT 54) .none .none (.str (Str.ofString "unicore.collkeys") 470) (.ref 334))), [].toArray⟩
noncomputable def o339 (P : Params) : Obj := ⟨(.type "code"), none, (.fields [(.str (Str.ofString "collkey_figures") 704), (.str (Str.ofString "collkey_figures") 705), (.str (Str.ofString "/claim/cut.py") 706), (.int 292 0), (.int 2 0), (.int 0 0), (.int 0 0), (.int 3 0), (.ref 336), (.bool true), (.int 181 0), (.ref 337), .none, .none, .none, (.ref 338), (.int 707 0), (.int 292 0), (.str (Str.ofString "/claim/cut.py") 708)].toArray), [].toArray⟩
noncomputable def o340 (P : Params) : Obj := ⟨(.type "function"), none, (.func (fnD (Str.ofString "collkey_figures") (Str.ofString "collkey_figures") (fnT 55) .none .none (.str (Str.ofString "unicore.collkeys") 470) (.ref 339))), [].toArray⟩
noncomputable def o344 (P : Params) : Obj := ⟨(.type "code"), none, (.fields [(.str (Str.ofString "numbered_elements") 710), (.str (Str.ofString "numbered_elements") 711), (.str (Str.ofString "/claim/cut.py") 712), (.int 301 0), (.int 3 0), (.int 0 0), (.int 0 0), (.int 3 0), (.ref 341), (.bool true), (.int 181 0), (.ref 342), .none, .none, .none, (.ref 343), (.int 713 0), (.int 301 0), (.str (Str.ofString "/claim/cut.py") 714)].toArray), [].toArray⟩
noncomputable def o345 (P : Params) : Obj := ⟨(.type "function"), none, (.func (fnD (Str.ofString "numbered_elements") (Str.ofString "numbered_elements") (fnT 56) .none .none (.str (Str.ofString "unicore.collkeys") 470) (.ref 344))), [].toArray⟩
noncomputable def o351 (P : Params) : Obj := ⟨(.type "code"), none, (.fields [(.str (Str.ofString "key_levels") 716), (.str (Str.ofString "key_levels") 717), (.str (Str.ofString "/claim/cut.py") 718), (.int 319 0), (.int 1 0), (.int 0 0), (.int 0 0), (.int 3 0), (.ref 346), (.bool true), (.int 181 0), (.ref 347), .none, (.ref 348), (.ref 349), (.ref 350), (.int 722 0), (.int 319 0), (.str (Str.ofString "/claim/cut.py") 723)].toArray), [].toArray⟩
noncomputable def o352 (P : Params) : Obj := ⟨(.type "function"), none, (.func (fnD (Str.ofString "key_levels") (Str.ofString "key_levels") (fnT 57) .none .none (.str (Str.ofString "unicore.collkeys") 470) (.ref 351))), [].toArray⟩
noncomputable def o356 (P : Params) : Obj := ⟨(.type "code"), none, (.fields [(.str (Str.ofString "merged_keys") 725), (.str (Str.ofString "merged_keys") 726), (.str (Str.ofString "/claim/cut.py") 727), (.int 327 0), (.int 1 0), (.int 0 0), (.int 0 0), (.int 3 0), (.ref 353), (.bool true), (.int 181 0), (.ref 354), .none, .none, .none, (.ref 355), (.int 728 0), (.int 327 0), (.str (Str.ofString "/claim/cut.py") 729)].toArray), [].toArray⟩
noncomputable def o357 (P : Params) : Obj := ⟨(.type "function"), none, (.func (fnD (Str.ofString "merged_keys") (Str.ofString "merged_keys") (fnT 58) .none .none (.str (Str.ofString "unicore.collkeys") 470) (.ref 356))), [].toArray⟩
noncomputable def o363 (P : Params) : Obj := ⟨(.type "code"), none, (.fields [(.str (Str.ofString "prefix_bounds") 731), (.str (Str.ofString "prefix_bounds") 732), (.str (Str.ofString "/claim/cut.py") 733), (.int 338 0), (.int 4 0), (.int 0 0), (.int 0 0), (.int 3 0), (.ref 358), (.bool true), (.int 181 0), (.ref 359), .none, (.ref 360), (.ref 361), (.ref 362), (.int 740 0), (.int 338 0), (.str (Str.ofString "/claim/cut.py") 741)].toArray), [].toArray⟩
noncomputable def o364 (P : Params) : Obj := ⟨(.type "function"), none, (.func (fnD (Str.ofString "prefix_bounds") (Str.ofString "prefix_bounds") (fnT 59) .none .none (.str (Str.ofString "unicore.collkeys") 470) (.ref 363))), [].toArray⟩
noncomputable def o370 (P : Params) : Obj := ⟨(.type "code"), none, (.fields [(.str (Str.ofString "coll_ideographs") 761), (.str (Str.ofString "coll_ideographs") 762), (.str (Str.ofString "/claim/cut.py") 763), (.int 353 0), (.int 0 0), (.int 0 0), (.int 0 0), (.int 3 0), (.ref 365), (.bool true), (.int 181 0), (.ref 366), .none, (.ref 367), (.ref 368), (.ref 369), (.int 767 0), (.int 353 0), (.str (Str.ofString "/claim/cut.py") 768)].toArray), [].toArray⟩
noncomputable def o371 (P : Params) : Obj := ⟨(.type "function"), none, (.func (fnD (Str.ofString "coll_ideographs") (Str.ofString "coll_ideographs") (fnT 69) .none .none (.str (Str.ofString "unicore.collate") 743) (.ref 370))), [].toArray⟩
noncomputable def o379 (P : Params) : Obj := ⟨(.type "tuple"), none, (.seq [.none].toArray 0), [].toArray⟩
noncomputable def o385 (P : Params) : Obj := ⟨(.type "code"), none, (.fields [(.str (Str.ofString "__init__") 782), (.str (Str.ofString "CollBase.__init__") 783), (.str (Str.ofString "/claim/cut.py") 784), (.int 366 0), (.int 5 0), (.int 0 0), (.int 0 0), (.int 3 0), (.ref 380), (.bool true), (.int 181 0), (.ref 381), .none, (.ref 382), (.ref 383), (.ref 384), (.int 790 0), (.int 366 0), (.str (Str.ofString "/claim/cut.py") 791)].toArray), [].toArray⟩
noncomputable def o386 (P : Params) : Obj := ⟨(.type "function"), none, (.func (fnD (Str.ofString "__init__") (Str.ofString "CollBase.__init__") (fnM 70 0) (.ref 379) .none (.str (Str.ofString "unicore.collate") 743) (.ref 385))), [].toArray⟩
noncomputable def o395 (P : Params) : Obj := ⟨(.type "dict"), none, (.dict [(kE P (Str.ofString "__module__") 777 (.str (Str.ofString "unicore.collate") 743)), (kE P (Str.ofString "__firstlineno__") 781 (.int 364 780)), (kE P (Str.ofString "__init__") 792 (.ref 386)), (kE P (Str.ofString "elements_of") 802 (.ref 393)), (kE P (Str.ofString "__static_attributes__") 807 (.ref 394)), (kE P (Str.ofString "__dict__") 809 (.ref 397)), (kE P (Str.ofString "__weakref__") 811 (.ref 398)), (kE P (Str.ofString "__doc__") 812 .none)].toArray 4), [].toArray⟩
noncomputable def o396 (P : Params) : Obj := ⟨(.type "type"), none, (.cls (clD (Str.ofString "CollBase") [(.type "object")] [(.ref 396), (.type "object")] 395)), [none, none, (some (.str (Str.ofString "CollBase") 770)), (some (.str (Str.ofString "CollBase") 778)), (some (.builtin "object.__new__")), (some (.bool true))].toArray⟩
noncomputable def o397 (P : Params) : Obj := ⟨(.type "getset_descriptor"), none, (.fields [(.str (Str.ofString "__dict__") 808), (.ref 396), (.builtin "function.__dict__"), (.builtin "function.__dict__#set")].toArray), [].toArray⟩
noncomputable def o398 (P : Params) : Obj := ⟨(.type "getset_descriptor"), none, (.fields [(.str (Str.ofString "__weakref__") 810), (.ref 396), (.builtin "ExceptionGroup.__weakref__"), .none].toArray), [].toArray⟩
noncomputable def o418 (P : Params) : Obj := ⟨(.type "code"), none, (.fields [(.str (Str.ofString "__init__") 833), (.str (Str.ofString "CollMatch.__init__") 834), (.str (Str.ofString "/claim/cut.py") 835), (.int 383 0), (.int 4 0), (.int 0 0), (.int 0 0), (.int 3 0), (.ref 413), (.bool true), (.int 181 0), (.ref 414), .none, (.ref 415), (.ref 416), (.ref 417), (.int 840 0), (.int 383 0), (.str (Str.ofString "/claim/cut.py") 841)].toArray), [].toArray⟩
noncomputable def o419 (P : Params) : Obj := ⟨(.type "function"), none, (.func (fnD (Str.ofString "__init__") (Str.ofString "CollMatch.__init__") (fnM 72 0) .none .none (.str (Str.ofString "unicore.collate") 743) (.ref 418))), [].toArray⟩
noncomputable def o421 (P : Params) : Obj := ⟨(.type "dict"), none, (.dict [(kE P (Str.ofString "__module__") 828 (.str (Str.ofString "unicore.collate") 743)), (kE P (Str.ofString "__firstlineno__") 832 (.int 381 831)), (kE P (Str.ofString "__init__") 842 (.ref 419)), (kE P (Str.ofString "__static_attributes__") 846 (.ref 420)), (kE P (Str.ofString "__dict__") 848 (.ref 423)), (kE P (Str.ofString "__weakref__") 850 (.ref 424)), (kE P (Str.ofString "__doc__") 851 .none)].toArray 4), [].toArray⟩
noncomputable def o422 (P : Params) : Obj := ⟨(.type "type"), none, (.cls (clD (Str.ofString "CollMatch") [(.type "object")] [(.ref 422), (.type "object")] 421)), [none, none, (some (.str (Str.ofString "CollMatch") 821)), (some (.str (Str.ofString "CollMatch") 829)), (some (.builtin "object.__new__")), (some (.bool true))].toArray⟩
noncomputable def o423 (P : Params) : Obj := ⟨(.type "getset_descriptor"), none, (.fields [(.str (Str.ofString "__dict__") 847), (.ref 422), (.builtin "function.__dict__"), (.builtin "function.__dict__#set")].toArray), [].toArray⟩
noncomputable def o424 (P : Params) : Obj := ⟨(.type "getset_descriptor"), none, (.fields [(.str (Str.ofString "__weakref__") 849), (.ref 422), (.builtin "ExceptionGroup.__weakref__"), .none].toArray), [].toArray⟩
noncomputable def o434 (P : Params) : Obj := ⟨(.type "tuple"), none, (.seq [(.bool true)].toArray 0), [].toArray⟩
noncomputable def o440 (P : Params) : Obj := ⟨(.type "code"), none, (.fields [(.str (Str.ofString "__init__") 866), (.str (Str.ofString "Elements.__init__") 867), (.str (Str.ofString "/claim/cut.py") 868), (.int 389 0), (.int 2 0), (.int 0 0), (.int 0 0), (.int 3 0), (.ref 435), (.bool true), (.int 181 0), (.ref 436), .none, (.ref 437), (.ref 438), (.ref 439), (.int 874 0), (.int 389 0), (.str (Str.ofString "/claim/cut.py") 875)].toArray), [].toArray⟩
noncomputable def o441 (P : Params) : Obj := ⟨(.type "function"), none, (.func (fnD (Str.ofString "__init__") (Str.ofString "Elements.__init__") (fnM 73 0) (.ref 434) .none (.str (Str.ofString "unicore.collate") 743) (.ref 440))), [].toArray⟩
noncomputable def o447 (P : Params) : Obj := ⟨(.type "code"), none, (.fields [(.str (Str.ofString "put") 877), (.str (Str.ofString "Elements.put") 878), (.str (Str.ofString "/claim/cut.py") 879), (.int 398 0), (.int 3 0), (.int 0 0), (.int 0 0), (.int 3 0), (.ref 442), (.bool true), (.int 181 0), (.ref 443), .none, (.ref 444), (.ref 445), (.ref 446), (.int 884 0), (.int 398 0), (.str (Str.ofString "/claim/cut.py") 885)].toArray), [].toArray⟩
noncomputable def o448 (P : Params) : Obj := ⟨(.type "function"), none, (.func (fnD (Str.ofString "put") (Str.ofString "Elements.put") (fnM 73 1) .none .none (.str (Str.ofString "unicore.collate") 743) (.ref 447))), [].toArray⟩
noncomputable def o482 (P : Params) : Obj := ⟨(.type "tuple"), none, (.seq [.none].toArray 0), [].toArray⟩
noncomputable def o488 (P : Params) : Obj := ⟨(.type "code"), none, (.fields [(.str (Str.ofString "put_implicit") 926), (.str (Str.ofString "Elements.put_implicit") 927), (.str (Str.ofString "/claim/cut.py") 928), (.int 419 0), (.int 5 0), (.int 0 0), (.int 0 0), (.int 3 0), (.ref 483), (.bool true), (.int 181 0), (.ref 484), .none, (.ref 485), (.ref 486), (.ref 487), (.int 934 0), (.int 419 0), (.str (Str.ofString "/claim/cut.py") 935)].toArray), [].toArray⟩
noncomputable def o489 (P : Params) : Obj := ⟨(.type "function"), none, (.func (fnD (Str.ofString "put_implicit") (Str.ofString "Elements.put_implicit") (fnM 73 7) (.ref 482) .none (.str (Str.ofString "unicore.collate") 743) (.ref 488))), [].toArray⟩
noncomputable def o507 (P : Params) : Obj := ⟨(.type "code"), none, (.fields [(.str (Str.ofString "match") 957), (.str (Str.ofString "Elements.match") 958), (.str (Str.ofString "/claim/cut.py") 959), (.int 435 0), (.int 5 0), (.int 0 0), (.int 0 0), (.int 3 0), (.ref 504), (.bool true), (.int 181 0), (.ref 505), .none, .none, .none, (.ref 506), (.int 960 0), (.int 435 0), (.str (Str.ofString "/claim/cut.py") 961)].toArray), [].toArray⟩
noncomputable def o508 (P : Params) : Obj := ⟨(.type "function"), none, (.func (fnD (Str.ofString "match") (Str.ofString "Elements.match") (fnM 73 10) .none .none (.str (Str.ofString "unicore.collate") 743) (.ref 507))), [].toArray⟩
noncomputable def o512 (P : Params) : Obj := ⟨(.type "code"), none, (.fields [(.str (Str.ofString "with_marks") 963), (.str (Str.ofString "Elements.with_marks") 964), (.str (Str.ofString "/claim/cut.py") 965), (.int 446 0), (.int 5 0), (.int 0 0), (.int 0 0), (.int 3 0), (.ref 509), (.bool true), (.int 181 0), (.ref 510), .none, .none, .none, (.ref 511), (.int 966 0), (.int 446 0), (.str (Str.ofString "/claim/cut.py") 967)].toArray), [].toArray⟩
noncomputable def o513 (P : Params) : Obj := ⟨(.type "function"), none, (.func (fnD (Str.ofString "with_marks") (Str.ofString "Elements.with_marks") (fnM 73 11) .none .none (.str (Str.ofString "unicore.collate") 743) (.ref 512))), [].toArray⟩
noncomputable def o517 (P : Params) : Obj := ⟨(.type "code"), none, (.fields [(.str (Str.ofString "located") 969), (.str (Str.ofString "Elements.located") 970), (.str (Str.ofString "/claim/cut.py") 971), (.int 463 0), (.int 3 0), (.int 0 0), (.int 0 0), (.int 3 0), (.ref 514), (.bool true), (.int 181 0), (.ref 515), .none, .none, .none, (.ref 516), (.int 972 0), (.int 463 0), (.str (Str.ofString "/claim/cut.py") 973)].toArray), [].toArray⟩
noncomputable def o518 (P : Params) : Obj := ⟨(.type "function"), none, (.func (fnD (Str.ofString "located") (Str.ofString "Elements.located") (fnM 73 12) .none .none (.str (Str.ofString "unicore.collate") 743) (.ref 517))), [].toArray⟩
noncomputable def o524 (P : Params) : Obj := ⟨(.type "code"), none, (.fields [(.str (Str.ofString "elements_of") 975), (.str (Str.ofString "Elements.elements_of") 976), (.str (Str.ofString "/claim/cut.py") 977), (.int 476 0), (.int 3 0), (.int 0 0), (.int 0 0), (.int 3 0), (.ref 519), (.bool true), (.int 181 0), (.ref 520), .none, (.ref 521), (.ref 522), (.ref 523), (.int 985 0), (.int 476 0), (.str (Str.ofString "/claim/cut.py") 986)].toArray), [].toArray⟩
noncomputable def o525 (P : Params) : Obj := ⟨(.type "function"), none, (.func (fnD (Str.ofString "elements_of") (Str.ofString "Elements.elements_of") (fnM 73 13) .none .none (.str (Str.ofString "unicore.collate") 743) (.ref 524))), [].toArray⟩
noncomputable def o527 (P : Params) : Obj := ⟨(.type "dict"), none, (.dict [(kE P (Str.ofString "__module__") 861 (.str (Str.ofString "unicore.collate") 743)), (kE P (Str.ofString "__firstlineno__") 865 (.int 387 864)), (kE P (Str.ofString "__init__") 876 (.ref 441)), (kE P (Str.ofString "put") 886 (.ref 448)), (kE P (Str.ofString "take_out") 894 (.ref 455)), (kE P (Str.ofString "get") 902 (.ref 462)), (kE P (Str.ofString "rows") 908 (.ref 467)), (kE P (Str.ofString "copy") 915 (.ref 474)), (kE P (Str.ofString "scaled") 925 (.ref 481)), (kE P (Str.ofString "put_implicit") 936 (.ref 489)), (kE P (Str.ofString "implicit_of") 945 (.ref 496)), (kE P (Str.ofString "greatest") 956 (.ref 503)), (kE P (Str.ofString "match") 962 (.ref 508)), (kE P (Str.ofString "with_marks") 968 (.ref 513)), (kE P (Str.ofString "located") 974 (.ref 518)), (kE P (Str.ofString "elements_of") 987 (.ref 525)), (kE P (Str.ofString "__static_attributes__") 992 (.ref 526)), (kE P (Str.ofString "__dict__") 994 (.ref 529)), (kE P (Str.ofString "__weakref__") 996 (.ref 530)), (kE P (Str.ofString "__doc__") 997 .none)].toArray 4), [].toArray⟩
noncomputable def o528 (P : Params) : Obj := ⟨(.type "type"), none, (.cls (clD (Str.ofString "Elements") [(.type "object")] [(.ref 528), (.type "object")] 527)), [none, none, (some (.str (Str.ofString "Elements") 854)), (some (.str (Str.ofString "Elements") 862)), (some (.builtin "object.__new__")), (some (.bool true))].toArray⟩
noncomputable def o529 (P : Params) : Obj := ⟨(.type "getset_descriptor"), none, (.fields [(.str (Str.ofString "__dict__") 993), (.ref 528), (.builtin "function.__dict__"), (.builtin "function.__dict__#set")].toArray), [].toArray⟩
noncomputable def o530 (P : Params) : Obj := ⟨(.type "getset_descriptor"), none, (.fields [(.str (Str.ofString "__weakref__") 995), (.ref 528), (.builtin "ExceptionGroup.__weakref__"), .none].toArray), [].toArray⟩
noncomputable def o538 (P : Params) : Obj := ⟨(.type "code"), none, (.fields [(.str (Str.ofString "coll_live") 1000), (.str (Str.ofString "coll_live") 1001), (.str (Str.ofString "/claim/cut.py") 1002), (.int 481 0), (.int 3 0), (.int 0 0), (.int 0 0), (.int 3 0), (.ref 533), (.bool true), (.int 181 0), (.ref 534), .none, (.ref 535), (.ref 536), (.ref 537), (.int 1007 0), (.int 481 0), (.str (Str.ofString "/claim/cut.py") 1008)].toArray), [].toArray⟩
noncomputable def o539 (P : Params) : Obj := ⟨(.type "function"), none, (.func (fnD (Str.ofString "coll_live") (Str.ofString "coll_live") (fnT 74) .none .none (.str (Str.ofString "unicore.collate") 743) (.ref 538))), [].toArray⟩
noncomputable def o543 (P : Params) : Obj := ⟨(.type "code"), none, (.fields [(.str (Str.ofString "coll_decomposed") 1010), (.str (Str.ofString "coll_decomposed") 1011), (.str (Str.ofString "/claim/cut.py") 1012), (.int 488 0), (.int 2 0), (.int 0 0), (.int 0 0), (.int 3 0), (.ref 540), (.bool true), (.int 181 0), (.ref 541), .none, .none, .none, (.ref 542), (.int 1013 0), (.int 488 0), (.str (Str.ofString "/claim/cut.py") 1014)].toArray), [].toArray⟩
noncomputable def o544 (P : Params) : Obj := ⟨(.type "function"), none, (.func (fnD (Str.ofString "coll_decomposed") (Str.ofString "coll_decomposed") (fnT 75) .none .none (.str (Str.ofString "unicore.collate") 743) (.ref 543))), [].toArray⟩
noncomputable def o550 (P : Params) : Obj := ⟨(.type "code"), none, (.fields [(.str (Str.ofString "range_are_like") 1018), (.str (Str.ofString "range_are_like") 1019), (.str (Str.ofString "/claim/cut.py") 1020), (.int 499 0), (.int 2 0), (.int 0 0), (.int 0 0), (.int 3 0), (.ref 545), (.bool true), (.int 181 0), (.ref 546), .none, (.ref 547), (.ref 548), (.ref 549), (.int 1023 0), (.int 499 0), (.str (Str.ofString "/claim/cut.py") 1024)].toArray), [].toArray⟩
noncomputable def o551 (P : Params) : Obj := ⟨(.type "function"), none, (.func (fnD (Str.ofString "range_are_like") (Str.ofString "range_are_like") (fnT 77) .none .none (.str (Str.ofString "unicore.ranges") 1016) (.ref 550))), [].toArray⟩
noncomputable def o564 (P : Params) : Obj := ⟨(.type "code"), none, (.fields [(.str (Str.ofString "__init__") 1038), (.str (Str.ofString "RangeMap.__init__") 1039), (.str (Str.ofString "/claim/cut.py") 1040), (.int 503 0), (.int 2 0), (.int 0 0), (.int 0 0), (.int 3 0), (.ref 559), (.bool true), (.int 181 0), (.ref 560), .none, (.ref 561), (.ref 562), (.ref 563), (.int 1043 0), (.int 503 0), (.str (Str.ofString "/claim/cut.py") 1044)].toArray), [].toArray⟩
noncomputable def o565 (P : Params) : Obj := ⟨(.type "function"), none, (.func (fnD (Str.ofString "__init__") (Str.ofString "RangeMap.__init__") (fnM 78 0) .none .none (.str (Str.ofString "unicore.ranges") 1016) (.ref 564))), [].toArray⟩
noncomputable def o571 (P : Params) : Obj := ⟨(.type "code"), none, (.fields [(.str (Str.ofString "get") 1046), (.str (Str.ofString "RangeMap.get") 1047), (.str (Str.ofString "/claim/cut.py") 1048), (.int 508 0), (.int 2 0), (.int 0 0), (.int 0 0), (.int 3 0), (.ref 566), (.bool true), (.int 181 0), (.ref 567), .none, (.ref 568), (.ref 569), (.ref 570), (.int 1051 0), (.int 508 0), (.str (Str.ofString "/claim/cut.py") 1052)].toArray), [].toArray⟩
noncomputable def o572 (P : Params) : Obj := ⟨(.type "function"), none, (.func (fnD (Str.ofString "get") (Str.ofString "RangeMap.get") (fnM 78 1) .none .none (.str (Str.ofString "unicore.ranges") 1016) (.ref 571))), [].toArray⟩
noncomputable def o578 (P : Params) : Obj := ⟨(.type "code"), none, (.fields [(.str (Str.ofString "put") 1054), (.str (Str.ofString "RangeMap.put") 1055), (.str (Str.ofString "/claim/cut.py") 1056), (.int 511 0), (.int 4 0), (.int 0 0), (.int 0 0), (.int 3 0), (.ref 573), (.bool true), (.int 181 0), (.ref 574), .none, (.ref 575), (.ref 576), (.ref 577), (.int 1066 0), (.int 511 0), (.str (Str.ofString "/claim/cut.py") 1067)].toArray), [].toArray⟩
noncomputable def o579 (P : Params) : Obj := ⟨(.type "function"), none, (.func (fnD (Str.ofString "put") (Str.ofString "RangeMap.put") (fnM 78 2) .none .none (.str (Str.ofString "unicore.ranges") 1016) (.ref 578))), [].toArray⟩
noncomputable def o593 (P : Params) : Obj := ⟨(.type "dict"), none, (.dict [(kE P (Str.ofString "__module__") 1033 (.str (Str.ofString "unicore.ranges") 1016)), (kE P (Str.ofString "__firstlineno__") 1037 (.int 501 1036)), (kE P (Str.ofString "__init__") 1045 (.ref 565)), (kE P (Str.ofString "get") 1053 (.ref 572)), (kE P (Str.ofString "put") 1068 (.ref 579)), (kE P (Str.ofString "ranges") 1074 (.ref 584)), (kE P (Str.ofString "set_of") 1082 (.ref 591)), (kE P (Str.ofString "__static_attributes__") 1086 (.ref 592)), (kE P (Str.ofString "__dict__") 1088 (.ref 595)), (kE P (Str.ofString "__weakref__") 1090 (.ref 596)), (kE P (Str.ofString "__doc__") 1091 .none)].toArray 4), [].toArray⟩
noncomputable def o594 (P : Params) : Obj := ⟨(.type "type"), none, (.cls (clD (Str.ofString "RangeMap") [(.type "object")] [(.ref 594), (.type "object")] 593)), [none, none, (some (.str (Str.ofString "RangeMap") 1026)), (some (.str (Str.ofString "RangeMap") 1034)), (some (.builtin "object.__new__")), (some (.bool true))].toArray⟩
noncomputable def o595 (P : Params) : Obj := ⟨(.type "getset_descriptor"), none, (.fields [(.str (Str.ofString "__dict__") 1087), (.ref 594), (.builtin "function.__dict__"), (.builtin "function.__dict__#set")].toArray), [].toArray⟩
noncomputable def o596 (P : Params) : Obj := ⟨(.type "getset_descriptor"), none, (.fields [(.str (Str.ofString "__weakref__") 1089), (.ref 594), (.builtin "ExceptionGroup.__weakref__"), .none].toArray), [].toArray⟩
noncomputable def o611 (P : Params) : Obj := ⟨(.type "code"), none, (.fields [(.str (Str.ofString "data_defaults") 1108), (.str (Str.ofString "data_defaults") 1109), (.str (Str.ofString "/claim/cut.py") 1110), (.int 538 0), (.int 0 0), (.int 0 0), (.int 0 0), (.int 3 0), (.ref 606), (.bool true), (.int 181 0), (.ref 607), .none, (.ref 608), (.ref 609), (.ref 610), (.int 1113 0), (.int 538 0), (.str (Str.ofString "/claim/cut.py") 1114)].toArray), [].toArray⟩
noncomputable def o612 (P : Params) : Obj := ⟨(.type "function"), none, (.func (fnD (Str.ofString "data_defaults") (Str.ofString "data_defaults") (fnT 81) .none .none (.str (Str.ofString "unicore.data") 1106) (.ref 611))), [].toArray⟩
noncomputable def o625 (P : Params) : Obj := ⟨(.type "code"), none, (.fields [(.str (Str.ofString "__init__") 1128), (.str (Str.ofString "Data.__init__") 1129), (.str (Str.ofString "/claim/cut.py") 1130), (.int 552 0), (.int 1 0), (.int 0 0), (.int 0 0), (.int 3 0), (.ref 620), (.bool true), (.int 181 0), (.ref 621), .none, (.ref 622), (.ref 623), (.ref 624), (.int 1132 0), (.int 552 0), (.str (Str.ofString "/claim/cut.py") 1133)].toArray), [].toArray⟩
noncomputable def o626 (P : Params) : Obj := ⟨(.type "function"), none, (.func (fnD (Str.ofString "__init__") (Str.ofString "Data.__init__") (fnM 82 0) .none .none (.str (Str.ofString "unicore.data") 1106) (.ref 625))), [].toArray⟩
noncomputable def o632 (P : Params) : Obj := ⟨(.type "code"), none, (.fields [(.str (Str.ofString "put") 1135), (.str (Str.ofString "Data.put") 1136), (.str (Str.ofString "/claim/cut.py") 1137), (.int 558 0), (.int 5 0), (.int 0 0), (.int 0 0), (.int 3 0), (.ref 627), (.bool true), (.int 181 0), (.ref 628), .none, (.ref 629), (.ref 630), (.ref 631), (.int 1143 0), (.int 558 0), (.str (Str.ofString "/claim/cut.py") 1144)].toArray), [].toArray⟩
noncomputable def o633 (P : Params) : Obj := ⟨(.type "function"), none, (.func (fnD (Str.ofString "put") (Str.ofString "Data.put") (fnM 82 1) .none .none (.str (Str.ofString "unicore.data") 1106) (.ref 632))), [].toArray⟩
noncomputable def o639 (P : Params) : Obj := ⟨(.type "code"), none, (.fields [(.str (Str.ofString "get") 1146), (.str (Str.ofString "Data.get") 1147), (.str (Str.ofString "/claim/cut.py") 1148), (.int 561 0), (.int 3 0), (.int 0 0), (.int 0 0), (.int 3 0), (.ref 634), (.bool true), (.int 181 0), (.ref 635), .none, (.ref 636), (.ref 637), (.ref 638), (.int 1152 0), (.int 561 0), (.str (Str.ofString "/claim/cut.py") 1153)].toArray), [].toArray⟩
noncomputable def o640 (P : Params) : Obj := ⟨(.type "function"), none, (.func (fnD (Str.ofString "get") (Str.ofString "Data.get") (fnM 82 2) .none .none (.str (Str.ofString "unicore.data") 1106) (.ref 639))), [].toArray⟩
noncomputable def o646 (P : Params) : Obj := ⟨(.type "code"), none, (.fields [(.str (Str.ofString "map_of") 1155), (.str (Str.ofString "Data.map_of") 1156), (.str (Str.ofString "/claim/cut.py") 1157), (.int 566 0), (.int 2 0), (.int 0 0), (.int 0 0), (.int 3 0), (.ref 641), (.bool true), (.int 181 0), (.ref 642), .none, (.ref 643), (.ref 644), (.ref 645), (.int 1160 0), (.int 566 0), (.str (Str.ofString "/claim/cut.py") 1161)].toArray), [].toArray⟩
noncomputable def o647 (P : Params) : Obj := ⟨(.type "function"), none, (.func (fnD (Str.ofString "map_of") (Str.ofString "Data.map_of") (fnM 82 3) .none .none (.str (Str.ofString "unicore.data") 1106) (.ref 646))), [].toArray⟩
noncomputable def o649 (P : Params) : Obj := ⟨(.type "dict"), none, (.dict [(kE P (Str.ofString "__module__") 1123 (.str (Str.ofString "unicore.data") 1106)), (kE P (Str.ofString "__firstlineno__") 1127 (.int 550 1126)), (kE P (Str.ofString "__init__") 1134 (.ref 626)), (kE P (Str.ofString "put") 1145 (.ref 633)), (kE P (Str.ofString "get") 1154 (.ref 640)), (kE P (Str.ofString "map_of") 1162 (.ref 647)), (kE P (Str.ofString "__static_attributes__") 1167 (.ref 648)), (kE P (Str.ofString "__dict__") 1169 (.ref 651)), (kE P (Str.ofString "__weakref__") 1171 (.ref 652)), (kE P (Str.ofString "__doc__") 1172 .none)].toArray 4), [].toArray⟩
noncomputable def o650 (P : Params) : Obj := ⟨(.type "type"), none, (.cls (clD (Str.ofString "Data") [(.type "object")] [(.ref 650), (.type "object")] 649)), [none, none, (some (.str (Str.ofString "Data") 1116)), (some (.str (Str.ofString "Data") 1124)), (some (.builtin "object.__new__")), (some (.bool true))].toArray⟩
noncomputable def o651 (P : Params) : Obj := ⟨(.type "getset_descriptor"), none, (.fields [(.str (Str.ofString "__dict__") 1168), (.ref 650), (.builtin "function.__dict__"), (.builtin "function.__dict__#set")].toArray), [].toArray⟩
noncomputable def o652 (P : Params) : Obj := ⟨(.type "getset_descriptor"), none, (.fields [(.str (Str.ofString "__weakref__") 1170), (.ref 650), (.builtin "ExceptionGroup.__weakref__"), .none].toArray), [].toArray⟩
noncomputable def o655 (P : Params) : Obj := ⟨(.type "tuple"), none, (.seq [(.int 97 1177), (.int 98 1178), (.int 65 1179), (.int 66 1180), (.int 48 1181), (.int 49 1182), (.int 50 1183), (.int 55 1184)].toArray 0), [].toArray⟩
noncomputable def o659 (P : Params) : Obj := ⟨(.type "code"), none, (.fields [(.str (Str.ofString "_law_deck") 1186), (.str (Str.ofString "_law_deck") 1187), (.str (Str.ofString "/claim/cut.py") 1188), (.int 572 0), (.int 1 0), (.int 0 0), (.int 0 0), (.int 3 0), (.ref 656), (.bool true), (.int 181 0), (.ref 657), .none, .none, .none, (.ref 658), (.int 1189 0), (.int 572 0), (.str (Str.ofString "/claim/cut.py") 1190)].toArray), [].toArray⟩
noncomputable def o660 (P : Params) : Obj := ⟨(.type "function"), none, (.func (fnD (Str.ofString "_law_deck") (Str.ofString "_law_deck") (fnT 85) .none .none (.str (Str.ofString "law_on0382_01") 1175) (.ref 659))), [].toArray⟩
noncomputable def o666 (P : Params) : Obj := ⟨(.type "code"), none, (.fields [(.str (Str.ofString "_law_draw") 1192), (.str (Str.ofString "_law_draw") 1193), (.str (Str.ofString "/claim/cut.py") 1194), (.int 577 0), (.int 2 0), (.int 0 0), (.int 0 0), (.int 3 0), (.ref 661), (.bool true), (.int 181 0), (.ref 662), .none, (.ref 663), (.ref 664), (.ref 665), (.int 1197 0), (.int 577 0), (.str (Str.ofString "/claim/cut.py") 1198)].toArray), [].toArray⟩
noncomputable def o667 (P : Params) : Obj := ⟨(.type "function"), none, (.func (fnD (Str.ofString "_law_draw") (Str.ofString "_law_draw") (fnT 86) .none .none (.str (Str.ofString "law_on0382_01") 1175) (.ref 666))), [].toArray⟩
noncomputable def o673 (P : Params) : Obj := ⟨(.type "code"), none, (.fields [(.str (Str.ofString "_law_tables") 1200), (.str (Str.ofString "_law_tables") 1201), (.str (Str.ofString "/claim/cut.py") 1202), (.int 582 0), (.int 0 0), (.int 0 0), (.int 0 0), (.int 3 0), (.ref 668), (.bool true), (.int 181 0), (.ref 669), .none, (.ref 670), (.ref 671), (.ref 672), (.int 1208 0), (.int 582 0), (.str (Str.ofString "/claim/cut.py") 1209)].toArray), [].toArray⟩
noncomputable def o674 (P : Params) : Obj := ⟨(.type "function"), none, (.func (fnD (Str.ofString "_law_tables") (Str.ofString "_law_tables") (fnT 87) .none .none (.str (Str.ofString "law_on0382_01") 1175) (.ref 673))), [].toArray⟩
noncomputable def o680 (P : Params) : Obj := ⟨(.type "code"), none, (.fields [(.str (Str.ofString "_law_tokens") 1211), (.str (Str.ofString "_law_tokens") 1212), (.str (Str.ofString "/claim/cut.py") 1213), (.int 594 0), (.int 2 0), (.int 0 0), (.int 0 0), (.int 3 0), (.ref 675), (.bool true), (.int 181 0), (.ref 676), .none, (.ref 677), (.ref 678), (.ref 679), (.int 1218 0), (.int 594 0), (.str (Str.ofString "/claim/cut.py") 1219)].toArray), [].toArray⟩
noncomputable def o681 (P : Params) : Obj := ⟨(.type "function"), none, (.func (fnD (Str.ofString "_law_tokens") (Str.ofString "_law_tokens") (fnT 88) .none .none (.str (Str.ofString "law_on0382_01") 1175) (.ref 680))), [].toArray⟩
noncomputable def o685 (P : Params) : Obj := ⟨(.type "code"), none, (.fields [(.str (Str.ofString "_law_weights") 1221), (.str (Str.ofString "_law_weights") 1222), (.str (Str.ofString "/claim/cut.py") 1223), (.int 605 0), (.int 2 0), (.int 0 0), (.int 0 0), (.int 3 0), (.ref 682), (.bool true), (.int 181 0), (.ref 683), .none, .none, .none, (.ref 684), (.int 1224 0), (.int 605 0), (.str (Str.ofString "/claim/cut.py") 1225)].toArray), [].toArray⟩
noncomputable def o686 (P : Params) : Obj := ⟨(.type "function"), none, (.func (fnD (Str.ofString "_law_weights") (Str.ofString "_law_weights") (fnT 89) .none .none (.str (Str.ofString "law_on0382_01") 1175) (.ref 685))), [].toArray⟩
noncomputable def o690 (P : Params) : Obj := ⟨(.type "code"), none, (.fields [(.str (Str.ofString "_law_levels") 1227), (.str (Str.ofString "_law_levels") 1228), (.str (Str.ofString "/claim/cut.py") 1229), (.int 617 0), (.int 2 0), (.int 0 0), (.int 0 0), (.int 3 0), (.ref 687), (.bool true), (.int 181 0), (.ref 688), .none, .none, .none, (.ref 689), (.int 1230 0), (.int 617 0), (.str (Str.ofString "/claim/cut.py") 1231)].toArray), [].toArray⟩
noncomputable def o691 (P : Params) : Obj := ⟨(.type "function"), none, (.func (fnD (Str.ofString "_law_levels") (Str.ofString "_law_levels") (fnT 90) .none .none (.str (Str.ofString "law_on0382_01") 1175) (.ref 690))), [].toArray⟩
noncomputable def o697 (P : Params) : Obj := ⟨(.type "code"), none, (.fields [(.str (Str.ofString "_law_key") 1233), (.str (Str.ofString "_law_key") 1234), (.str (Str.ofString "/claim/cut.py") 1235), (.int 629 0), (.int 1 0), (.int 0 0), (.int 0 0), (.int 3 0), (.ref 692), (.bool true), (.int 181 0), (.ref 693), .none, (.ref 694), (.ref 695), (.ref 696), (.int 1239 0), (.int 629 0), (.str (Str.ofString "/claim/cut.py") 1240)].toArray), [].toArray⟩
noncomputable def o698 (P : Params) : Obj := ⟨(.type "function"), none, (.func (fnD (Str.ofString "_law_key") (Str.ofString "_law_key") (fnT 91) .none .none (.str (Str.ofString "law_on0382_01") 1175) (.ref 697))), [].toArray⟩
noncomputable def o704 (P : Params) : Obj := ⟨(.type "code"), none, (.fields [(.str (Str.ofString "_law_sign") 1242), (.str (Str.ofString "_law_sign") 1243), (.str (Str.ofString "/claim/cut.py") 1244), (.int 634 0), (.int 2 0), (.int 0 0), (.int 0 0), (.int 3 0), (.ref 699), (.bool true), (.int 181 0), (.ref 700), .none, (.ref 701), (.ref 702), (.ref 703), (.int 1247 0), (.int 634 0), (.str (Str.ofString "/claim/cut.py") 1248)].toArray), [].toArray⟩
noncomputable def o705 (P : Params) : Obj := ⟨(.type "function"), none, (.func (fnD (Str.ofString "_law_sign") (Str.ofString "_law_sign") (fnT 92) .none .none (.str (Str.ofString "law_on0382_01") 1175) (.ref 704))), [].toArray⟩
noncomputable def o709 (P : Params) : Obj := ⟨(.type "code"), none, (.fields [(.str (Str.ofString "law") 1250), (.str (Str.ofString "law") 1251), (.str (Str.ofString "/claim/cut.py") 1252), (.int 636 0), (.int 1 0), (.int 0 0), (.int 0 0), (.int 3 0), (.ref 706), (.bool true), (.int 181 0), (.ref 707), .none, .none, .none, (.ref 708), (.int 1253 0), (.int 636 0), (.str (Str.ofString "/claim/cut.py") 1254)].toArray), [].toArray⟩
noncomputable def o710 (P : Params) : Obj := ⟨(.type "function"), none, (.func (fnD (Str.ofString "law") (Str.ofString "law") (fnT 93) .none .none (.str (Str.ofString "law_on0382_01") 1175) (.ref 709))), [].toArray⟩
noncomputable def K (P : Params) : Frag := [(3, o3 P), (60, o60 P), (61, o61 P), (67, o67 P), (68, o68 P), (81, o81 P), (82, o82 P), (95, o95 P), (96, o96 P), (102, o102 P), (103, o103 P), (109, o109 P), (110, o110 P), (112, o112 P), (114, o114 P), (115, o115 P), (116, o116 P), (122, o122 P), (123, o123 P), (181, o181 P), (187, o187 P), (188, o188 P), (194, o194 P), (195, o195 P), (203, o203 P), (204, o204 P), (210, o210 P), (211, o211 P), (213, o213 P), (214, o214 P), (215, o215 P), (216, o216 P), (233, o233 P), (239, o239 P), (240, o240 P), (241, o241 P), (247, o247 P), (248, o248 P), (252, o252 P), (253, o253 P), (257, o257 P), (258, o258 P), (262, o262 P), (263, o263 P), (267, o267 P), (268, o268 P), (279, o279 P), (280, o280 P), (286, o286 P), (287, o287 P), (288, o288 P), (292, o292 P), (293, o293 P), (299, o299 P), (300, o300 P), (306, o306 P), (307, o307 P), (313, o313 P), (314, o314 P), (320, o320 P), (321, o321 P), (327, o327 P), (328, o328 P), (334, o334 P), (335, o335 P), (339, o339 P), (340, o340 P), (344, o344 P), (345, o345 P), (351, o351 P), (352, o352 P), (356, o356 P), (357, o357 P), (363, o363 P), (364, o364 P), (370, o370 P), (371, o371 P), (379, o379 P), (385, o385 P), (386, o386 P), (395, o395 P), (396, o396 P), (397, o397 P), (398, o398 P), (418, o418 P), (419, o419 P), (421, o421 P), (422, o422 P), (423, o423 P), (424, o424 P), (434, o434 P), (440, o440 P), (441, o441 P), (447, o447 P), (448, o448 P), (482, o482 P), (488, o488 P), (489, o489 P), (507, o507 P), (508, o508 P), (512, o512 P), (513, o513 P), (517, o517 P), (518, o518 P), (524, o524 P), (525, o525 P), (527, o527 P), (528, o528 P), (529, o529 P), (530, o530 P), (538, o538 P), (539, o539 P), (543, o543 P), (544, o544 P), (550, o550 P), (551, o551 P), (564, o564 P), (565, o565 P), (571, o571 P), (572, o572 P), (578, o578 P), (579, o579 P), (593, o593 P), (594, o594 P), (595, o595 P), (596, o596 P), (611, o611 P), (612, o612 P), (625, o625 P), (626, o626 P), (632, o632 P), (633, o633 P), (639, o639 P), (640, o640 P), (646, o646 P), (647, o647 P), (649, o649 P), (650, o650 P), (651, o651 P), (652, o652 P), (655, o655 P), (659, o659 P), (660, o660 P), (666, o666 P), (667, o667 P), (673, o673 P), (674, o674 P), (680, o680 P), (681, o681 P), (685, o685 P), (686, o686 P), (690, o690 P), (691, o691 P), (697, o697 P), (698, o698 P), (704, o704 P), (705, o705 P), (709, o709 P), (710, o710 P)]
noncomputable def Kas : List Addr := [3, 60, 61, 67, 68, 81, 82, 95, 96, 102, 103, 109, 110, 112, 114, 115, 116, 122, 123, 181, 187, 188, 194, 195, 203, 204, 210, 211, 213, 214, 215, 216, 233, 239, 240, 241, 247, 248, 252, 253, 257, 258, 262, 263, 267, 268, 279, 280, 286, 287, 288, 292, 293, 299, 300, 306, 307, 313, 314, 320, 321, 327, 328, 334, 335, 339, 340, 344, 345, 351, 352, 356, 357, 363, 364, 370, 371, 379, 385, 386, 395, 396, 397, 398, 418, 419, 421, 422, 423, 424, 434, 440, 441, 447, 448, 482, 488, 489, 507, 508, 512, 513, 517, 518, 524, 525, 527, 528, 529, 530, 538, 539, 543, 544, 550, 551, 564, 565, 571, 572, 578, 579, 593, 594, 595, 596, 611, 612, 625, 626, 632, 633, 639, 640, 646, 647, 649, 650, 651, 652, 655, 659, 660, 666, 667, 673, 674, 680, 681, 685, 686, 690, 691, 697, 698, 704, 705, 709, 710]
theorem Kas_eq : ∀ P, Kas = (K P).map (·.1) := fun _ => rfl
/-- (qualname, the function's address, its code's) -/
noncomputable def fnTab : List (String × Addr × Addr) := [("place_by_half", 61, 60), ("is_hangul_syllable", 68, 67), ("hangul_parts", 82, 81), ("form_mapping", 96, 95), ("form_expanded", 103, 102), ("ordered", 110, 109), ("form_sorted", 115, 114), ("decomposed", 123, 122), ("form_of", 188, 187), ("nfd", 195, 194), ("CollOptions.__init__", 211, 210), ("weighted", 240, 239), ("is_upper_third", 248, 247), ("collkey_first", 253, 252), ("collkey_second", 258, 257), ("collkey_case", 263, 262), ("collkey_third", 268, 267), ("collkey_levels", 280, 279), ("collkey_level", 287, 286), ("weights_key", 293, 292), ("elements_for", 300, 299), ("sort_key", 307, 306), ("compare_lists", 314, 313), ("compare_weights", 321, 320), ("compare", 328, 327), ("collkey_digit", 335, 334), ("collkey_figures", 340, 339), ("numbered_elements", 345, 344), ("key_levels", 352, 351), ("merged_keys", 357, 356), ("prefix_bounds", 364, 363), ("coll_ideographs", 371, 370), ("CollBase.__init__", 386, 385), ("CollMatch.__init__", 419, 418), ("Elements.__init__", 441, 440), ("Elements.put", 448, 447), ("Elements.put_implicit", 489, 488), ("Elements.match", 508, 507), ("Elements.with_marks", 513, 512), ("Elements.located", 518, 517), ("Elements.elements_of", 525, 524), ("coll_live", 539, 538), ("coll_decomposed", 544, 543), ("range_are_like", 551, 550), ("RangeMap.__init__", 565, 564), ("RangeMap.get", 572, 571), ("RangeMap.put", 579, 578), ("data_defaults", 612, 611), ("Data.__init__", 626, 625), ("Data.put", 633, 632), ("Data.get", 640, 639), ("Data.map_of", 647, 646), ("_law_deck", 660, 659), ("_law_draw", 667, 666), ("_law_tables", 674, 673), ("_law_tokens", 681, 680), ("_law_weights", 686, 685), ("_law_levels", 691, 690), ("_law_key", 698, 697), ("_law_sign", 705, 704), ("law", 710, 709)]
end Mine

end
noncomputable section
set_option Elab.async false
set_option maxRecDepth 100000
/-! the top's run, by one evaluation over the tree heap -/
open PySem PySem.W PyProof.Rows
namespace Mine

noncomputable def topRunT (stp : SharedT → Thread → Option (SharedT × Thread)) (ok : Thread → Bool) : Nat → SharedT → Thread → Option SharedT
  | 0, _, _ => none
  | n + 1, s, t => match through t with
    | true => some s
    | false => match ok t with
      | false => none
      | true => match stp s t with
        | some x => topRunT stp ok n x.1 x.2
        | none => none

theorem topRunT_spec {tb : String → Option Builtin} {p : Program} {w : World} {n₀ : Nat} {ann : Option Value} : ∀ (n : Nat) (s s' : SharedT) (t : Thread),
    topRunT (stepT (denote tb) p w) (stepOk n₀ ann) n s t = some s' → topRun tb p w n₀ ann n s.abs t = some s'.abs
  | 0, _, _, _, h => by cases h
  | n + 1, s, s', t, h => by
    unfold topRunT at h
    unfold topRun
    cases ht : through t with
    | true => rw [ht] at h; cases h; rfl
    | false =>
      rw [ht] at h
      cases hk : stepOk n₀ ann t with
      | false => rw [hk] at h; cases h
      | true =>
        rw [hk] at h
        cases hs : stepT (denote tb) p w s t with
        | none => rw [hs] at h; cases h
        | some x =>
          rw [hs] at h
          obtain ⟨s₁, t₁⟩ := x
          show (match step (denote tb) p w s.abs t with | .go s' t' => topRun tb p w n₀ ann n s' t' | .halt _ _ => none) = _
          rw [stepT_spec hs]
          exact topRunT_spec n s₁ s' t₁ h


theorem leftO_of {p qT : Program} {looseT : List Str} {XT : Shared → Bool} {α : Type} {Yf : Shared → α} {Ya : World → α} {N M : Nat} {g0 : Bool} {hB : World → Heap} {gB : Array GenState} {dB : Drawn} {kB : Nat} {m₀ : Nat} {ann : Option Value} {s₀T : World → OsState → SharedT}
    (open_ : ∀ w, (fencedOpening treeTable p w N).map (fun s => (s.heap, s.gens, s.drawn, s.toks)) = some (hB w, gB, dB, kB))
    (size : ∀ w, ((hB w).isNs mainGlobals && gB.size == 0, (hB w).objs.size, (hB w).nsMap mainGlobals "__annotations__") = (true, m₀, ann))
    (abs : ∀ w os, (s₀T w os).abs = ⟨hB w, gB, dB, kB, os⟩) (le : M ≤ N)
    (run : ∀ w os, (topRunT (stepT (denote treeTable) p w) (stepOk m₀ ann) M (s₀T w os) (topStub p)).map (fun s => ((staticsOk (importedModules p.main.body) (hB w) s.abs.heap && namesBound p s.abs.heap && gensDone s.abs && laidKept (hB w) s.abs.heap),
        (openSeen qT looseT (importedModules p.main.body) XT g0 s.abs, Yf s.abs))) = some (true, openGood qT looseT, Ya w)) : LeftO p qT looseT XT Yf Ya N g0 := fun w => by
  obtain ⟨⟨h, gs, d, k, os⟩, e, e'⟩ := Option.map_eq_some_iff.mp (open_ w)
  obtain ⟨rfl, rfl, rfl, rfl⟩ : h = hB w ∧ gs = gB ∧ d = dB ∧ k = kB := by
    simp only [Prod.mk.injEq] at e'
    exact e'
  have z := size w
  simp only [Prod.mk.injEq] at z
  obtain ⟨z1, z2, z3⟩ := z
  obtain ⟨s, hs, hl⟩ := Option.map_eq_some_iff.mp (run w os)
  obtain ⟨l1, l2⟩ := Prod.mk.inj hl
  have r := topRun_mono (N - M) _ _ _ _ (topRunT_spec _ _ _ _ hs)
  rw [abs, show M + (N - M) = N by omega] at r
  have t : topFrom treeTable p w N ⟨hB w, gs, d, k, os⟩ = some s.abs := by
    unfold topFrom
    dsimp only
    rw [z1, z2, z3, r]
    show (match staticsOk (importedModules p.main.body) (hB w) s.abs.heap && namesBound p s.abs.heap && gensDone s.abs && laidKept (hB w) s.abs.heap with | true => _ | false => _) = _
    rw [l1]
  unfold openEnds
  rw [e]
  show (topFrom treeTable p w N _).map _ = _
  rw [t]
  exact congrArg some l2

noncomputable def bootTree (P : Params) : BT := ((boot_heap P).objs.toList.foldl (fun (x : BT × Nat) o => (x.1.ins x.2 o, x.2 + 1)) (.nil, 0)).1
noncomputable def s0T (w : World) (os : OsState) : SharedT := ⟨bootTree w.params, 11, {}, #[], boot_drawn, boot_toks, os⟩
theorem s0T_abs (w : World) (os : OsState) : (s0T w os).abs = ⟨boot_heap w.params, Array.mk [], boot_drawn, boot_toks, os⟩ := by kernel_rfl

noncomputable def qT : Program := { pw with main := { pw.main with body := [stAt 93] } }
noncomputable def looseT : List Str := pw.boundNames.filter fun x => x != "law"
noncomputable def XT : Shared → Bool := fun s => xlAt qT [] s && recOk (RowW.records PySem.Challenge.rw_on0382_01.row.toRowW) s
noncomputable def HT : Hook := kHook K Kas Kas_eq

theorem open0 : ∀ w : World, (fencedOpening treeTable pw w 9999).map (fun s => (s.heap, s.gens, s.drawn, s.toks)) = some (boot_heap w.params, Array.mk [], boot_drawn, boot_toks) :=
  boot_open rfl rfl fun _ => rfl
theorem size0 : ∀ w : World, ((boot_heap w.params).isNs mainGlobals && (#[] : Array GenState).size == 0, (boot_heap w.params).objs.size, (boot_heap w.params).nsMap mainGlobals "__annotations__") = (true, 11, some (.ref 6)) := fun _ => by kernel_rfl

theorem run0 : ∀ (w : World) (os : OsState), (topRunT (stepT (denote treeTable) pw w) (stepOk 11 (some (.ref 6))) 5000 (s0T w os) (topStub pw)).map (fun s => ((staticsOk (importedModules pw.main.body) (boot_heap w.params) s.abs.heap && namesBound pw s.abs.heap && gensDone s.abs && laidKept (boot_heap w.params) s.abs.heap),
        (openSeen qT looseT (importedModules pw.main.body) XT true s.abs, HT.obs s.abs))) = some (true, openGood qT looseT, HT.val w) := fun w os => by kernel_rfl
theorem left0 : LeftO pw qT looseT XT HT.obs HT.val 9999 := leftO_of open0 size0 s0T_abs (by decide) run0
end Mine

end
noncomputable section
set_option Elab.async false
set_option maxRecDepth 100000
open PySem PySem.W PyProof.Rows
namespace Mine
theorem said0 : PySem.Challenge.rw_on0382_01.wellSaid = true := by decide +kernel
noncomputable def lawRec : DefRec := match stAt 93 with
  | .FunctionDef n a b _ _ _ sc _ _ pos => ⟨n, a, b, sc, pos⟩
  | _ => ⟨Str.empty, default, [], default, default⟩
theorem hdef0 : defOf qT PySem.Challenge.rw_on0382_01.row.name = some (lawRec, []) := by kernel_rfl
theorem hp0 : PySem.Challenge.rw_on0382_01.row.prog.theDef PySem.Challenge.rw_on0382_01.row.name = some (lawRec.params, lawRec.body, lawRec.scope) := by kernel_rfl
theorem hk0 : kwWritten? lawRec.params.kwonlyargs lawRec.params.kw_defaults = some [] := by kernel_rfl
theorem ok0 : (chainsOk qT && opensWell PySem.Challenge.rw_on0382_01.row.prog && (frees PySem.Challenge.rw_on0382_01.row.toRowW && PySem.Challenge.rw_on0382_01.row.within.isEmpty)) = true := by decide +kernel
theorem bare0 : PySem.Challenge.rw_on0382_01.row.prog.bare := ⟨rfl, rfl, rfl, rfl, rfl, by decide +kernel⟩
theorem prom0 : PySem.Challenge.rw_on0382_01.row.toRowW.promised := by w_witness2
theorem hwr0 : (!PySem.Challenge.rw_on0382_01.row.writes || PySem.Challenge.rw_on0382_01.row.records.isEmpty) = true := by decide
theorem head0 (walk : WalkO qT looseT (XL qT []) HT.says PySem.Challenge.rw_on0382_01.row.toRowW lawRec [] fun f vs => PySem.call f vs) : PySem.Challenge.rw_on0382_01.Holds :=
  holds_law said0 fun said => holds_open (r := PySem.Challenge.rw_on0382_01.row) left0 HT.of HT.keeps (fun s e => xl_of s (Bool.and_eq_true_iff.mp e).1) XL.keeps hdef0 hp0 hk0
    (fun _ e => recFacts_of (Bool.and_eq_true_iff.mp e).2) hwr0 said ok0 bare0 prom0 walk
end Mine

end
noncomputable section
set_option Elab.async false
set_option maxRecDepth 100000
/-! a small evaluator for the part of Python that the law reaches, over plain data -/
open PySem PySem.W
namespace Mine
/-- a dict's key -/
inductive Key where
  | s (x : Str)
  | i (n : Int)
  | t (ns : List Int)
  deriving DecidableEq
/-- frozen data: nothing in it will ever be changed -/
inductive F where
  | none
  | bool (b : Bool)
  | int (i : Int)
  | str (x : Str)
  | glob (v : Value)
  | rng (a b : Int)
  | tup (fs : List F)
  | lst (fs : List F)
  | dct (es : List (Key × F))
  | ins (c : Addr) (fs : List (Str × F))
/-- data of a call under way: frozen, or a name of an object of the call's own, or a tuple of such -/
inductive D where
  | f (v : F)
  | own (k : Nat)
  | tup (ds : List D)
/-- an object of the call's own -/
inductive O where
  | lst (ds : List D)
  | dct (es : List (Key × D))
  | ins (c : Addr) (fs : List (Str × D))
  | frz (v : F)
noncomputable abbrev Rho := List (Str × D)
noncomputable abbrev Hp := List O
noncomputable abbrev Sc := List (Str × NameKind)
inductive Fl where
  | next | brk | cont
  | ret (d : D)
/-! ## views -/
noncomputable def fInt : F → Option Int | .int n => some n | _ => none
noncomputable def fStr : F → Option Str | .str x => some x | _ => none
noncomputable def fTup : F → Option (List F) | .tup l => some l | _ => none
noncomputable def fLst : F → Option (List F) | .lst l => some l | _ => none
noncomputable def fDct : F → Option (List (Key × F)) | .dct l => some l | _ => none
noncomputable def fIns : F → Option (Addr × List (Str × F)) | .ins c l => some (c, l) | _ => none
noncomputable def fRng : F → Option (Int × Int) | .rng a b => some (a, b) | _ => none
noncomputable def fGlb : F → Option Value | .glob v => some v | _ => none
noncomputable def fNone : F → Bool | .none => true | _ => false
noncomputable def fBool : F → Option Bool | .bool b => some b | _ => none
noncomputable def unF : D → Option F | .f v => some v | _ => none
noncomputable def dInt (d : D) : Option Int := (unF d).bind fInt
noncomputable def dNone : D → Bool | .f v => fNone v | _ => false
noncomputable def dGlb (d : D) : Option Value := (unF d).bind fGlb
noncomputable def oLst : O → Option (List D) | .lst l => some l | _ => none
noncomputable def one {α : Type} : List α → Option α | [a] => some a | _ => none
noncomputable def two {α : Type} : List α → Option (α × α) | [a, b] => some (a, b) | _ => none
noncomputable def listE : Expr → Option (List Expr) | .List es _ => some es | _ => none
noncomputable def tupE : Expr → Option (List Expr) | .Tuple es _ _ => some es | _ => none
noncomputable def nameE : Expr → Option Str | .Name x _ => some x | _ => none
noncomputable def sliceE : Expr → Option (Option Expr × Option Expr × Option Expr) | .Slice a b c _ => some (a, b, c) | _ => none
noncomputable def oneGen : List Comprehension → Option (Expr × Expr × List Expr)
  | [⟨t, i, l, 0⟩] => some (t, i, l)
  | _ => none
/-- a call of a name, without keywords -/
noncomputable def callN : Expr → Option (Str × List Expr)
  | .Call f as [] _ => (nameE f).map fun x => (x, as)
  | _ => none
/-- a call of a name -/
noncomputable def isCN : Expr → Bool
  | .Call f _ _ _ => (nameE f).isSome
  | _ => false
noncomputable def isStar (e : Expr) : Bool := e.ctorIdx == 22
noncomputable def isSet (e : Expr) : Bool := e.ctorIdx == 7
noncomputable def isCall (e : Expr) : Bool := e.ctorIdx == 16

noncomputable def toFs : List D → Option (List F)
  | [] => some []
  | d :: r => (unF d).bind fun v => (toFs r).map (v :: ·)
noncomputable def mkTup (ds : List D) : D := match toFs ds with
  | some fs => .f (.tup fs)
  | none => .tup ds
noncomputable def fzs (g : D → Hp → Option (F × Hp)) : List D → Hp → Option (List F × Hp)
  | [], H => some ([], H)
  | d :: r, H => (g d H).bind fun x => (fzs g r x.2).map fun y => (x.1 :: y.1, y.2)
noncomputable def fzks {κ : Type} (g : D → Hp → Option (F × Hp)) : List (κ × D) → Hp → Option (List (κ × F) × Hp)
  | [], H => some ([], H)
  | d :: r, H => (g d.2 H).bind fun x => (fzks g r x.2).map fun y => ((d.1, x.1) :: y.1, y.2)
noncomputable def frzn : O → Bool
  | .frz _ => true
  | _ => false
noncomputable def fzPut (k : Nat) (v : F) (H : Hp) : Option (F × Hp) := H[k]?.bind fun o => if frzn o then none else some (v, H.set k (.frz v))
/-- freeze -/
noncomputable def fzO (g : D → Hp → Option (F × Hp)) (k : Nat) (H : Hp) : O → Option (F × Hp)
  | .frz v => some (v, H)
  | .lst ds => (fzs g ds H).bind fun x => fzPut k (.lst x.1) x.2
  | .dct es => (fzks g es H).bind fun x => fzPut k (.dct x.1) x.2
  | .ins c fs => (fzks g fs H).bind fun x => fzPut k (.ins c x.1) x.2
noncomputable def fzD (g : D → Hp → Option (F × Hp)) (H : Hp) : D → Option (F × Hp)
  | .f v => some (v, H)
  | .tup ds => (fzs g ds H).map fun x => (.tup x.1, x.2)
  | .own k => H[k]?.bind (fzO g k H)
noncomputable def fz : Nat → D → Hp → Option (F × Hp)
  | 0, d, H => (unF d).map fun v => (v, H)
  | n + 1, d, H => fzD (fz n) H d
noncomputable abbrev fuelFz : Nat := 12
/-- no list of the law grows past this -/
noncomputable abbrev lim : Nat := 100000
noncomputable def nameOk (x : Str) : Bool := !(x == ("__debug__" : Str)) && !(x == ("__classdict__" : Str))

/-! ## looks -/
noncomputable def dF (l : List F) : List D := l.map .f
noncomputable def oList : O → Option (List D)
  | .lst l => some l
  | .frz v => (fLst v).map dF
  | _ => none
noncomputable def oDct : O → Option (List (Key × D))
  | .dct l => some l
  | .frz v => (fDct v).map fun l => l.map fun e => (e.1, .f e.2)
  | _ => none
noncomputable def oIns : O → Option (Addr × List (Str × D))
  | .ins c l => some (c, l)
  | .frz v => (fIns v).map fun x => (x.1, x.2.map fun e => (e.1, .f e.2))
  | _ => none
noncomputable def oFrz : O → Option F
  | .frz v => some v
  | .lst l => (toFs l).map .lst
  | _ => none
noncomputable def asLst (d : D) (H : Hp) : Option (List D) := match d with
  | .f v => (fLst v).map dF
  | .own k => H[k]?.bind oList
  | .tup _ => none
noncomputable def asTup (d : D) : Option (List D) := match d with
  | .f v => (fTup v).map dF
  | .tup ds => some ds
  | .own _ => none
noncomputable def asDct (d : D) (H : Hp) : Option (List (Key × D)) := match d with
  | .f v => (fDct v).map fun l => l.map fun e => (e.1, .f e.2)
  | .own k => H[k]?.bind oDct
  | .tup _ => none
noncomputable def asIns (d : D) (H : Hp) : Option (Addr × List (Str × D)) := match d with
  | .f v => (fIns v).map fun x => (x.1, x.2.map fun e => (e.1, .f e.2))
  | .own k => H[k]?.bind oIns
  | .tup _ => none
/-- a list of the call's own that may change -/
noncomputable def ownL (d : D) (H : Hp) : Option (Nat × List D) := match d with
  | .own k => (H[k]?.bind oLst).map fun l => (k, l)
  | _ => none
/-- a frozen view, without freezing -/
noncomputable def frozen (d : D) (H : Hp) : Option F := match d with
  | .f v => some v
  | .own k => H[k]?.bind oFrz
  | .tup _ => none
noncomputable def frozenL (d : D) (H : Hp) : Option (List F) := (frozen d H).bind fLst
noncomputable def seqOf (d : D) (H : Hp) : Option (List D) := match asLst d H with
  | some l => some l
  | none => asTup d
noncomputable def intsOf : List F → Option (List Int)
  | [] => some []
  | x :: r => (fInt x).bind fun n => (intsOf r).map (n :: ·)
noncomputable def intsD : List D → Option (List Int)
  | [] => some []
  | x :: r => (dInt x).bind fun n => (intsD r).map (n :: ·)
noncomputable def fKey : F → Option Key
  | .str x => some (.s x)
  | .int n => some (.i n)
  | .tup fs => (intsOf fs).map .t
  | _ => none
noncomputable def asKey (d : D) : Option Key := (unF d).bind fKey
noncomputable def sameKind : Key → Key → Bool
  | .s _, k => (match k with | .s _ => true | _ => false)
  | .i _, k => (match k with | .i _ => true | _ => false)
  | .t _, k => (match k with | .t _ => true | _ => false)
noncomputable def fTruth : F → Option Bool
  | .none => some false
  | .bool b => some b
  | _ => none
noncomputable def truthy (d : D) : Option Bool := (unF d).bind fTruth

/-! ## operators -/
noncomputable def eqs (g : F → F → Option Bool) : List F → List F → Option (List Bool)
  | a :: x, b :: y => (g a b).bind fun r => (eqs g x y).map (r :: ·)
  | _, _ => some []
/-- like none? -/
noncomputable def eqNone : F → Option Bool
  | .none => some true
  | .str _ => some false
  | .tup _ => some false
  | _ => none
noncomputable def eq0 (x y : F) : Option Bool := match x with
  | .none => eqNone y
  | .bool a => (fBool y).map (a == ·)
  | .int a => (fInt y).map (a == ·)
  | .str a => if fNone y then some false else (fStr y).map (a == ·)
  | .tup _ => if fNone y then some false else none
  | _ => none
noncomputable def eqN : Nat → F → F → Option Bool
  | 0, x, y => eq0 x y
  | n + 1, x, y => match x with
    | .tup a => if fNone y then some false else (fTup y).bind fun b => if a.length = b.length then (eqs (eqN n) a b).map fun l => l.all id else none
    | .lst a => (fLst y).bind fun b => if a.length = b.length then (eqs (eqN n) a b).map fun l => l.all id else some false
    | x => eq0 x y
noncomputable def ordI (op : CmpOp) (x y : Int) : Option Bool := match op with
  | .Lt => some (decide (x < y))
  | .LtE => some (decide (x ≤ y))
  | .Gt => some (decide (y < x))
  | _ => none
noncomputable def ordA (op : CmpOp) (x y : F) : Option Bool := (fInt x).bind fun a => (fInt y).bind fun b => ordI op a b
noncomputable def ords (op : CmpOp) (g h : F → F → Option Bool) : List F → List F → Option Bool
  | a :: x, b :: y => (g a b).bind fun r => cond r (ords op g h x y) (h a b)
  | [], [] => some (op == .LtE)
  | [], _ :: _ => some (op != .Gt)
  | _ :: _, [] => some (op == .Gt)
noncomputable def isOrd (op : CmpOp) : Bool := op == .Lt || op == .LtE || op == .Gt
noncomputable def ordN : Nat → CmpOp → F → F → Option Bool
  | 0, op, x, y => ordA op x y
  | n + 1, op, x, y => match fLst x with
    | some a => if isOrd op then (fLst y).bind fun b => ords op (eqN n) (ordN n op) a b else none
    | none => ordA op x y
noncomputable def memA (a x : F) : Option Bool := match fInt a with
  | some m => (fInt x).map (· == m)
  | none => (fStr a).bind fun m => (fStr x).map (· == m)
noncomputable def memF (a : F) : List F → Option Bool
  | [] => some false
  | x :: r => (memA a x).bind fun p => (memF a r).map (p || ·)
noncomputable def atomF (a : F) : Bool := (fInt a).isSome || (fStr a).isSome
noncomputable def isNoneD : D → Option Bool
  | .f v => if (fGlb v).isSome then none else some (fNone v)
  | _ => some false
/-- the empty list, written -/
noncomputable def isNil (d : D) : Bool := match (unF d).bind fLst with | some [] => true | _ => false
noncomputable def cmpEq (a b : D) (H : Hp) : Option Bool :=
  if isNil b then (asLst a H).map (·.isEmpty) else (frozen a H).bind fun x => (frozen b H).bind fun y => eqN 3 x y
noncomputable def cmpOrd (op : CmpOp) (a b : D) (H : Hp) : Option Bool := (frozen a H).bind fun x => (frozen b H).bind fun y => ordN 3 op x y
noncomputable def inDct (a b : D) (H : Hp) : Option Bool := (asDct b H).bind fun es => (asKey a).bind fun k => if es.all (fun e => sameKind k e.1) then some (es.any fun e => e.1 == k) else none
noncomputable def cmpIn (a b : D) (H : Hp) : Option Bool := match (unF b).bind fTup with
  | some fs => (frozen a H).bind fun x => if atomF x then memF x fs else none
  | none => inDct a b H
noncomputable def cmpIs (a b : D) : Option Bool := if dNone b then isNoneD a else none
noncomputable def cmp (op : CmpOp) (a b : D) (H : Hp) : Option Bool := match op with
  | .Eq => cmpEq a b H
  | .NotEq => (cmpEq a b H).map (!·)
  | .GtE => (dInt a).bind fun x => (dInt b).map fun y => decide (y ≤ x)
  | .Is => cmpIs a b
  | .IsNot => (cmpIs a b).map (!·)
  | .In => cmpIn a b H
  | .NotIn => (cmpIn a b H).map (!·)
  | op => cmpOrd op a b H
noncomputable def int2 (f : Int → Int → Option Int) (a b : D) : Option D := (dInt a).bind fun x => (dInt b).bind fun y => (f x y).map fun z => .f (.int z)
noncomputable def mulI (x y : Int) : Option Int := if y.natAbs < 4611686018427387904 then some (x * y) else if x.natAbs < 4611686018427387904 then some (x * y) else none
noncomputable def divI (x y : Int) : Option Int := if y ≤ 0 then none else if y < 4611686018427387904 then some (Int.fdiv x y) else none
noncomputable def modI (x y : Int) : Option Int := if y ≤ 0 then none else some (Int.fmod x y)
noncomputable def addTup (x y : List F) : Option D := if x.isEmpty || y.isEmpty || !decide (x.length + y.length ≤ lim) then none else some (.f (.tup (x ++ y)))
noncomputable def addLst (a b : D) (H : Hp) : Option (List F) := (frozenL a H).bind fun p => (frozenL b H).bind fun q => if p.length + q.length ≤ lim then some (p ++ q) else none
noncomputable def mulLst (x : List F) (b : D) : Option (List F) := (one x).bind fun v => (dInt b).bind fun n => if 0 ≤ n && decide (n ≤ lim) then some (List.replicate n.toNat v) else none
/-- a new list out of an operator -/
noncomputable def binL (op : Operator) (a b : D) (H : Hp) : Option (List F) := match op with
  | .Add => addLst a b H
  | .Mult => ((unF a).bind fLst).bind fun x => mulLst x b
  | _ => none
/-- another value out of an operator -/
noncomputable def binV (op : Operator) (a b : D) : Option D := match op with
  | .Add => (match (unF a).bind fTup with
    | some x => ((unF b).bind fTup).bind fun y => addTup x y
    | none => int2 (fun x y => some (x + y)) a b)
  | .Sub => int2 (fun x y => some (x - y)) a b
  | .Mult => int2 mulI a b
  | .FloorDiv => int2 divI a b
  | .Mod => int2 modI a b
  | _ => none
noncomputable def bin (op : Operator) (a b : D) (H : Hp) : Option D := match binV op a b with
  | some d => some d
  | none => (binL op a b H).map fun l => .f (.lst l)
noncomputable def augI (op : Operator) (a b : D) : Option D := match op with
  | .Add => int2 (fun x y => some (x + y)) a b
  | .Sub => int2 (fun x y => some (x - y)) a b
  | _ => none
/-- an index, from behind too -/
noncomputable def idx (i : Int) (n : Nat) : Option Nat := if lim < n then none else if 0 ≤ i then (if i < n then some i.toNat else none) else if 0 ≤ i + n then some (i + n).toNat else none
noncomputable def getD' (d i : D) (H : Hp) : Option D := (asKey i).bind fun k => (asDct d H).bind fun es => if es.all (fun e => sameKind k e.1) then es.lookup k else none
noncomputable def getI (d i : D) (H : Hp) : Option D := match seqOf d H with
  | some l => (dInt i).bind fun k => (idx k l.length).bind fun j => l[j]?
  | none => getD' d i H
/-- where a bound of a slice lands -/
noncomputable def clp (n : Nat) (k : Int) : Nat := (max 0 (min (if k < 0 then k + n else k) n)).toNat
noncomputable def sliceL (lo hi : Option Int) (l : List F) : List F := (l.take (hi.elim l.length (clp l.length))).drop (lo.elim 0 (clp l.length))
noncomputable def optInt (d : D) : Option (Option Int) := if dNone d then some none else (dInt d).map some
noncomputable def setL (es : List (Key × D)) (k : Key) (v : D) : List (Key × D) := if es.any (fun e => e.1 == k) then es.map fun e => if e.1 == k then (e.1, v) else e else es ++ [(k, v)]
noncomputable def setA : List (Str × D) → Str → D → List (Str × D)
  | [], x, v => [(x, v)]
  | e :: r, x, v => cond (e.1 == x) ((e.1, v) :: r) (e :: setA r x v)

/-! ## the text's defs and classes -/
structure Fn where
  name : Str
  addr : Addr
  code : Addr
  text : Arguments × List Stmt × Scope
  dflt : List F
  pure : Bool
structure Cl where
  name : Str
  addr : Addr
  attrs : List Str
  meths : List (Str × Fn)
noncomputable def paramsOf (t : Arguments × List Stmt × Scope) : List Str := t.1.args.map (·.arg)
structure Tabs where
  gl : Str → Option F
  fns : Addr → Option Fn
  cls : Addr → Option Cl
/-- the names of a def bound to what it was handed, what is not handed by its defaults -/
noncomputable def bindP (f : Fn) (ds : List D) : Option Rho :=
  let ps := paramsOf f.text
  if ds.length ≤ ps.length && ps.length ≤ ds.length + f.dflt.length then
    some (ps.zip (ds ++ dF (f.dflt.drop (ds.length + f.dflt.length - ps.length))))
  else none
structure Rec where
  ex : Sc → Expr → Rho → Hp → Option (D × Hp)
  ts : Sc → Expr → Rho → Hp → Option (Bool × Hp)
  st : Sc → List Stmt → Rho → Hp → Option (Fl × Rho × Hp)
noncomputable def varK (T : Tabs) (ρ : Rho) (x : Str) : NameKind → Option D
  | .local => ρ.lookup x
  | .cell => ρ.lookup x
  | .free => ρ.lookup x
  | .globalImplicit => (T.gl x).map .f
  | _ => none
noncomputable def var (T : Tabs) (sc : Sc) (ρ : Rho) (x : Str) : Option D := (sc.lookup x).bind (varK T ρ x)
noncomputable def asStr (d : D) : Option Str := (unF d).bind fStr
noncomputable def constD : Const → Option F
  | .none => some .none
  | .bool b => some (.bool b)
  | .int i => some (.int i)
  | .str x => some (.str x)
  | _ => none
noncomputable def retOf : Fl → Option D | .ret d => some d | _ => none
noncomputable def endOf : Fl → Option D | .ret d => some d | .next => some (.f .none) | _ => none

section
variable (T : Tabs) (R : Rec)
/-- parts, one by one -/
noncomputable def mapE (f : Expr → Hp → Option (D × Hp)) : List Expr → Hp → Option (List D × Hp)
  | [], H => some ([], H)
  | e :: r, H => if isStar e then none else (f e H).bind fun x => (mapE f r x.2).map fun y => (x.1 :: y.1, y.2)
/-- a part, frozen -/
noncomputable def exF (sc : Sc) (e : Expr) (ρ : Rho) (H : Hp) : Option (D × Hp) := (R.ex sc e ρ H).bind fun x => (fz fuelFz x.1 x.2).map fun y => (.f y.1, y.2)
noncomputable def exs (sc : Sc) (ρ : Rho) (es : List Expr) (H : Hp) : Option (List D × Hp) := mapE (fun e H => R.ex sc e ρ H) es H
noncomputable def listV (sc : Sc) (es : List Expr) (ρ : Rho) (H : Hp) : Option (D × Hp) := if es.length ≤ lim then (mapE (fun e H => exF R sc e ρ H) es H).bind fun x => (toFs x.1).map fun l => (.f (.lst l), x.2) else none
/-- a value for use at once: a written list stays frozen -/
noncomputable def exV (sc : Sc) (e : Expr) (ρ : Rho) (H : Hp) : Option (D × Hp) := match listE e with
  | some es => listV R sc es ρ H
  | none => R.ex sc e ρ H
noncomputable def exVs (sc : Sc) (ρ : Rho) (es : List Expr) (H : Hp) : Option (List D × Hp) := mapE (fun e H => exV R sc e ρ H) es H

/-! ## calls -/
noncomputable def pureC (f : Fn) (ds : List D) (H : Hp) : Option (D × Hp) :=
  (fzs (fz fuelFz) ds H).bind fun x => (bindP f (dF x.1)).bind fun ρ => (R.st f.text.2.2.names f.text.2.1 ρ []).bind fun r => (retOf r.1).bind fun d => (fz fuelFz d r.2.2).map fun y => (.f y.1, x.2)
noncomputable def impC (f : Fn) (ds : List D) (H : Hp) : Option (D × Hp) :=
  (bindP f ds).bind fun ρ => (R.st f.text.2.2.names f.text.2.1 ρ H).bind fun r => (endOf r.1).map fun d => (d, r.2.2)
/-- sorted, of nothing -/
noncomputable def sortE (ds : List D) (H : Hp) : Option (D × Hp) := (one ds).bind fun d => (asLst d H).bind fun l => if l.isEmpty then some (.f (.lst []), H) else none
/-- a call of a def of the text -/
noncomputable def callFn (f : Fn) (ds : List D) (H : Hp) : Option (D × Hp) := if f.addr = 115 then sortE ds H else cond f.pure (pureC R f ds H) (impC R f ds H)
noncomputable def callCls (c : Cl) (ds : List D) (H : Hp) : Option (D × Hp) := (c.meths.lookup (Str.ofString "__init__")).bind fun f => (callFn R f (.own H.length :: ds) (H ++ [.ins c.addr []])).bind fun x => if dNone x.1 then some (.own H.length, x.2) else none
noncomputable def lenB (ds : List D) (H : Hp) : Option D := (one ds).bind fun d => (seqOf d H).bind fun l => if l.length ≤ lim then some (.f (.int l.length)) else none
noncomputable def foldH (f : Int → Int → Int) : List Int → Option Int
  | a :: r => some (r.foldl f a)
  | [] => none
noncomputable def bestB (f : Int → Int → Int) (ds : List D) (H : Hp) : Option D := match two ds with
  | some x => int2 (fun a b => some (f a b)) x.1 x.2
  | none => (one ds).bind fun d => (asLst d H).bind fun l => (intsD l).bind fun l => (foldH f l).map fun m => .f (.int m)
noncomputable def vTy : Value → Option String | .type n => some n | _ => none
noncomputable def notBool : F → Bool
  | .int _ => true
  | .str _ => true
  | .tup _ => true
  | .none => true
  | _ => false
noncomputable def isiList (d : D) (H : Hp) : Option Bool := if (asLst d H).isSome then some true else (dInt d).map fun _ => false
noncomputable def isiBool (d : D) : Option Bool := (unF d).bind fun v => if notBool v then some false else none
noncomputable def isiB (d t : D) (H : Hp) : Option Bool := ((dGlb t).bind vTy).bind fun n => if n = "list" then isiList d H else if n = "bool" then isiBool d else none
noncomputable def callB (n : String) (ds : List D) (H : Hp) : Option D :=
  if n = "len" then lenB ds H else if n = "max" then bestB max ds H else if n = "min" then bestB min ds H
  else if n = "isinstance" then (two ds).bind fun x => (isiB x.1 x.2 H).map fun b => .f (.bool b) else none
noncomputable def rangeT (ds : List D) : Option F := match one ds with
  | some d => (dInt d).map fun a => .rng 0 a
  | none => (two ds).bind fun x => (dInt x.1).bind fun a => (dInt x.2).map fun b => .rng a b
noncomputable def limL (l : List F) : Option (List F) := if l.length ≤ lim then some l else none
noncomputable def tupleT (v : F) : Option F := match fTup v with
  | some l => some (.tup l)
  | none => ((fLst v).bind limL).map .tup
noncomputable def callT (n : String) (ds : List D) (H : Hp) : Option F :=
  if n = "int" then (one ds).bind fun d => (dInt d).map .int else if n = "range" then rangeT ds
  else (one ds).bind fun d => (frozen d H).bind fun v => if n = "list" then ((fLst v).bind limL).map .lst else if n = "tuple" then tupleT v else none
noncomputable def callA (a : Addr) (ds : List D) (H : Hp) : Option (D × Hp) := match T.fns a with
  | some f => callFn R f ds H
  | none => (T.cls a).bind fun c => callCls R c ds H
noncomputable def callG (ds : List D) (H : Hp) : Value → Option (D × Hp)
  | .ref a => callA T R a ds H
  | .builtin n => (callB n ds H).map fun d => (d, H)
  | .type n => (callT n ds H).map fun d => (.f d, H)
  | _ => none
noncomputable def callV (v : D) (ds : List D) (H : Hp) : Option (D × Hp) := (dGlb v).bind (callG T R ds H)

/-! ## methods of lists and dicts -/
noncomputable def isLM (m : Str) : Bool := m == ("append" : Str) || m == ("extend" : Str) || m == ("pop" : Str) || m == ("insert" : Str)
/-- what a method is asked of -/
noncomputable def recvOk (d : D) (m : Str) (H : Hp) : Bool := if (ownL d H).isSome then isLM m else m == ("get" : Str) && (asDct d H).isSome
noncomputable def notT : Key → Bool
  | .t _ => false
  | _ => true
noncomputable def getM (d k x : D) (H : Hp) : Option D := (asKey k).bind fun k => (asDct d H).bind fun es => if notT k && es.all (fun e => sameKind k e.1) then some ((es.lookup k).getD x) else none
noncomputable def methD (d : D) (m : Str) (ds : List D) (H : Hp) : Option D :=
  if m = "get" then (match one ds with
    | some k => getM d k (.f .none) H
    | none => (two ds).bind fun x => getM d x.1 x.2 H)
  else none
/-- a list's method: what it gives, and the list behind it -/
noncomputable def methL (m : Str) (l ds : List D) (H : Hp) : Option (D × List D) :=
  if m = "append" then (one ds).map fun x => (.f .none, l ++ [x])
  else if m = "extend" then (one ds).bind fun x => ((frozenL x H).bind limL).map fun fs => (.f .none, l ++ dF fs)
  else if m = "pop" then (if ds.isEmpty then l.getLast?.map fun x => (x, l.dropLast) else none)
  else if m = "insert" then (two ds).bind fun x => (dInt x.1).bind fun i => if i = l.length then some (.f .none, l ++ [x.2]) else none
  else none
noncomputable def meth (d : D) (m : Str) (ds : List D) (H : Hp) : Option (D × Hp) := match ownL d H with
  | some x => if x.2.length ≤ lim then (methL m x.2 ds H).map fun y => (y.1, H.set x.1 (.lst y.2)) else none
  | none => (methD d m ds H).map fun y => (y, H)

/-! ## loops -/
noncomputable def rngL (a b : Int) : List D := (List.range (b - a).toNat).map fun (k : Nat) => .f (.int (a + k))
noncomputable def lstOf (d : D) (H : Hp) : Option (List F × Hp) := (fz fuelFz d H).bind fun x => ((fLst x.1).bind limL).map fun fs => (fs, x.2)
noncomputable def itemsR (x : Int × Int) : Option (List D) := if x.1.natAbs ≤ lim && decide (x.2.natAbs ≤ lim) then some (rngL x.1 x.2) else none
noncomputable def itemsOf (d : D) (H : Hp) : Option (List D × Hp) := match (unF d).bind fRng with
  | some x => (itemsR x).map fun l => (l, H)
  | none => match asTup d with
    | some l => some (l, H)
    | none => (lstOf d H).map fun x => (dF x.1, x.2)
noncomputable def enumL : Nat → List D → List D
  | _, [] => []
  | n, d :: r => mkTup [.f (.int n), d] :: enumL (n + 1) r
noncomputable def zipL : List D → List D → List D
  | a :: x, b :: y => mkTup [a, b] :: zipL x y
  | _, _ => []
noncomputable def isGI (sc : Sc) (x : Str) : Bool := sc.lookup x == some .globalImplicit
noncomputable def plainI (sc : Sc) (e : Expr) (ρ : Rho) (H : Hp) : Option (List D × Hp) := (exV R sc e ρ H).bind fun x => itemsOf x.1 x.2
noncomputable def enumI (sc : Sc) (a : Expr) (ρ : Rho) (H : Hp) : Option (List D × Hp) :=
  if isGI sc (Str.ofString "enumerate") && !isStar a then (R.ex sc a ρ H).bind fun x => (lstOf x.1 x.2).map fun y => (enumL 0 (dF y.1), y.2) else none
noncomputable def zipI (sc : Sc) (a b : Expr) (ρ : Rho) (H : Hp) : Option (List D × Hp) :=
  if isGI sc (Str.ofString "zip") && !isStar a && !isStar b then (R.ex sc a ρ H).bind fun x => (R.ex sc b ρ x.2).bind fun y => (lstOf x.1 y.2).bind fun z => (lstOf y.1 z.2).map fun u => (zipL (dF z.1) (dF u.1), u.2) else none
/-- what a for goes over -/
noncomputable def iters (sc : Sc) (e : Expr) (ρ : Rho) (H : Hp) : Option (List D × Hp) := match callN e with
  | some x => if x.1 = "enumerate" then (one x.2).bind fun a => enumI R sc a ρ H else if x.1 = "zip" then (two x.2).bind fun y => zipI R sc y.1 y.2 ρ H else plainI R sc e ρ H
  | none => plainI R sc e ρ H
noncomputable def putK (ρ : Rho) (x : Str) (d : D) : NameKind → Option Rho
  | .local => some ((x, d) :: ρ.filter fun e => e.1 != x)
  | .cell => some ((x, d) :: ρ.filter fun e => e.1 != x)
  | _ => none
noncomputable def putV (sc : Sc) (ρ : Rho) (x : Str) (d : D) : Option Rho := (sc.lookup x).bind (putK ρ x d)
/-- names bound to a value's parts -/
noncomputable def bindT (sc : Sc) : Nat → Expr → D → Rho → Option Rho
  | 0, t, d, ρ => (nameE t).bind fun x => putV sc ρ x d
  | n + 1, t, d, ρ => match nameE t with
    | some x => putV sc ρ x d
    | none => (tupE t).bind fun es => (asTup d).bind fun ds => if ds.length = es.length then (es.zip ds).foldlM (fun ρ p => bindT sc n p.1 p.2 ρ) ρ else none
noncomputable def testsL (sc : Sc) (ρ : Rho) : List Expr → Hp → Option (Bool × Hp)
  | [], H => some (true, H)
  | e :: r, H => (R.ts sc e ρ H).bind fun x => cond x.1 (testsL sc ρ r x.2) (some (false, x.2))
noncomputable def compL (sc : Sc) (elt tgt : Expr) (ifs : List Expr) (ρ : Rho) : List D → Hp → Option (List F × Hp)
  | [], H => some ([], H)
  | d :: r, H => (bindT sc 4 tgt d ρ).bind fun ρ' => (testsL R sc ρ' ifs H).bind fun b =>
    cond b.1 ((R.ex sc elt ρ' b.2).bind fun x => (fz fuelFz x.1 x.2).bind fun y => (compL sc elt tgt ifs ρ r y.2).map fun z => (y.1 :: z.1, z.2)) (compL sc elt tgt ifs ρ r b.2)
/-- a chain of comparisons -/
noncomputable def chain (sc : Sc) (ρ : Rho) : D → List CmpOp → List Expr → Hp → Option (Bool × Hp)
  | a, op :: ops, es, H => (match es with
    | e :: es => (exV R sc e ρ H).bind fun x => (cmp op a x.1 x.2).bind fun b => if ops.isEmpty then some (b, x.2) else cond b (chain sc ρ x.1 ops es x.2) (some (false, x.2))
    | [] => none)
  | _, [], _, _ => none
noncomputable def stopB (op : BoolOp) (b : Bool) : Bool := match op with | .And => !b | .Or => b
noncomputable def boolV (sc : Sc) (ρ : Rho) (op : BoolOp) : List Expr → Hp → Option (D × Hp)
  | [], _ => none
  | e :: r, H => (R.ex sc e ρ H).bind fun x => if r.isEmpty then some x else (truthy x.1).bind fun b => cond (stopB op b) (some x) (boolV sc ρ op r x.2)
noncomputable def boolT (sc : Sc) (ρ : Rho) (op : BoolOp) : List Expr → Hp → Option (Bool × Hp)
  | [], H => some (op == .And, H)
  | e :: r, H => (R.ts sc e ρ H).bind fun x => cond (stopB op x.1) (some x) (boolT sc ρ op r x.2)

/-- enumerate and zip want their pairs taken apart at once -/
noncomputable def tgtOk (t it : Expr) : Bool := (tupE t).isSome || ((nameE t).isSome && match callN it with
  | some x => !(x.1 == ("enumerate" : Str)) && !(x.1 == ("zip" : Str))
  | none => true)
noncomputable def nameIn (sc : Sc) (e : Str × NameKind) : Bool := match e.2 with
  | .local => true
  | .globalImplicit => true
  | .free => sc.lookup e.1 == some .cell
  | _ => false
noncomputable def scopeOk (sc : Sc) (scope : Scope) : Bool := scope.kind == .function && decide (scope.names.map (·.1)).Nodup && scope.names.all (nameIn sc)
noncomputable def notGlob (d : D) : Bool := (dGlb d).isNone
/-- a tuple's parts stored in no particular order -/
noncomputable def swapOk (t v : Expr) : Bool := !(v.ctorIdx == 9) && !(v.ctorIdx == 10) && match tupE t with
  | some es => !(v.ctorIdx == 8) && (match tupE v with
    | some vs => (!(vs.all (constantsAlone 8)) || vs.all (foldedForSure 8)) && decide (es.filterMap nameE).Nodup
    | none => true)
  | none => true
noncomputable def optE (sc : Sc) (ρ : Rho) (o : Option Expr) (H : Hp) : Option (D × Hp) := match o with
  | none => some (.f .none, H)
  | some e => R.ex sc e ρ H
noncomputable def compE (sc : Sc) (elt tgt it : Expr) (ifs : List Expr) (scope : Scope) (ρ : Rho) (H : Hp) : Option (D × Hp) :=
  if !scopeOk sc scope || isSet it || !tgtOk tgt it then none else (iters R sc it ρ H).bind fun x => if lim < x.1.length then none else
    (compL R scope.names elt tgt ifs (ρ.filter fun e => scope.names.lookup e.1 == some .free) x.1 x.2).map fun y => (.f (.lst y.1), y.2)
noncomputable def dpairs (sc : Sc) (ρ : Rho) : List (Option Expr) → List Expr → Hp → Option (List (Str × D) × Hp)
  | [], vs, H => if vs.isEmpty then some ([], H) else none
  | ok :: ks, vs, H => ok.bind fun k => vs.head?.bind fun v => (R.ex sc k ρ H).bind fun x => (asStr x.1).bind fun key => (R.ex sc v ρ x.2).bind fun y => (dpairs sc ρ ks vs.tail y.2).map fun z => ((key, y.1) :: z.1, z.2)
/-! ## expressions -/
noncomputable def binE (sc : Sc) (l : Expr) (op : Operator) (r : Expr) (ρ : Rho) (H : Hp) : Option (D × Hp) := (exV R sc l ρ H).bind fun a => (exV R sc r ρ a.2).bind fun b => (bin op a.1 b.1 b.2).map fun d => (d, b.2)
noncomputable def unE (sc : Sc) (op : UnaryOp) (x : Expr) (ρ : Rho) (H : Hp) : Option (D × Hp) := (R.ex sc x ρ H).bind fun a => match op with
  | .USub => (dInt a.1).map fun n => (.f (.int (-n)), a.2)
  | .Not => (truthy a.1).map fun b => (.f (.bool !b), a.2)
  | _ => none
noncomputable def chainE (sc : Sc) (l : Expr) (ops : List CmpOp) (es : List Expr) (ρ : Rho) (H : Hp) : Option (Bool × Hp) := if lastMarks ops es || !(ops.length == es.length) then none else (exV R sc l ρ H).bind fun a => chain R sc ρ a.1 ops es a.2
noncomputable def attrE (sc : Sc) (o : Expr) (a : Str) (ρ : Rho) (H : Hp) : Option (D × Hp) := if isCN o then none else (R.ex sc o ρ H).bind fun x => (asIns x.1 x.2).bind fun y => (T.cls y.1).bind fun cl => (y.2.lookup a).bind fun d => if cl.attrs.contains a && notGlob d then some (d, x.2) else none
/-- a slice of a list, or a tuple's beginning -/
noncomputable def sliceT (fs : List F) (p q : Option Int) (H : Hp) : Option (D × Hp) := q.bind fun q => if p.isNone && 0 ≤ q && q < fs.length && decide (fs.length ≤ lim) then some (.f (.tup (fs.take q.toNat)), H) else none
noncomputable def sliceF (v : F) (p q : Option Int) (H : Hp) : Option (D × Hp) := match fTup v with
  | some fs => sliceT fs p q H
  | none => ((fLst v).bind limL).map fun fs => (.f (.lst (sliceL p q fs)), H)
noncomputable def sliceR (x k : D) (lo hi : Option Expr) (H : Hp) : Option (D × Hp) := (dInt k).bind fun i => if i = -1 && lo.isNone && hi.isNone then ((frozenL x H).bind limL).map fun fs => (.own H.length, H ++ [.lst (dF fs.reverse)]) else none
noncomputable def subS (sc : Sc) (o : Expr) (lo hi st : Option Expr) (ρ : Rho) (H : Hp) : Option (D × Hp) :=
  (exV R sc o ρ H).bind fun x => (optE R sc ρ lo x.2).bind fun a => (optE R sc ρ hi a.2).bind fun b => match st with
    | none => (frozen x.1 b.2).bind fun v => (optInt a.1).bind fun p => (optInt b.1).bind fun q => sliceF v p q b.2
    | some e => (R.ex sc e ρ b.2).bind fun k => sliceR x.1 k.1 lo hi k.2
noncomputable def subI (sc : Sc) (o i : Expr) (ρ : Rho) (H : Hp) : Option (D × Hp) := (exV R sc o ρ H).bind fun x => (R.ex sc i ρ x.2).bind fun y => (getI x.1 y.1 y.2).map fun d => (d, y.2)
noncomputable def methE (sc : Sc) (o : Expr) (m : Str) (args : List Expr) (ρ : Rho) (H : Hp) : Option (D × Hp) := (R.ex sc o ρ H).bind fun x => match asIns x.1 x.2 with
  | some i => if (i.2.any fun e => e.1 == m) then none else (T.cls i.1).bind fun c => (c.meths.lookup m).bind fun f => (exVs R sc ρ args x.2).bind fun y => callFn R f (x.1 :: y.1) y.2
  | none => if recvOk x.1 m x.2 then (if m = "append" then exs R sc ρ args x.2 else exVs R sc ρ args x.2).bind fun y => meth x.1 m y.1 y.2 else none
noncomputable def nameC (sc : Sc) (nm : Str) (np : Pos) (args : List Expr) (ρ : Rho) (H : Hp) : Option (D × Hp) := (R.ex sc (.Name nm np) ρ H).bind fun v => (exVs R sc ρ args v.2).bind fun x => callV T R v.1 x.1 x.2
noncomputable def callE (sc : Sc) (f : Expr) (args : List Expr) (pos : Pos) (ρ : Rho) (H : Hp) : Option (D × Hp) := match f with
  | .Attribute o m apos => if isCN o || !(apos.endLine == pos.line) || !decide (args.length < 30) then none else methE T R sc o m args ρ H
  | .Name nm np => nameC T R sc nm np args ρ H
  | _ => none
noncomputable def stepEx (sc : Sc) (e : Expr) (ρ : Rho) (H : Hp) : Option (D × Hp) := match e with
  | .Constant c _ _ => (constD c).map fun d => (.f d, H)
  | .Name x _ => if nameOk x then (var T sc ρ x).map fun d => (d, H) else none
  | .BinOp l op r _ => binE R sc l op r ρ H
  | .UnaryOp op x _ => unE R sc op x ρ H
  | .BoolOp op es _ => boolV R sc ρ op es H
  | .Compare l ops es _ => (chainE R sc l ops es ρ H).map fun b => (.f (.bool b.1), b.2)
  | .IfExp c a b _ => (R.ts sc c ρ H).bind fun x => R.ex sc (cond x.1 a b) ρ x.2
  | .Tuple es _ _ => if es.length ≤ lim then (exs R sc ρ es H).map fun x => (mkTup x.1, x.2) else none
  | .List es _ => if es.length ≤ lim then (exs R sc ρ es H).map fun x => (.own x.2.length, x.2 ++ [.lst x.1]) else none
  | .Dict ks vs _ => if ks.length ≤ 15 then (dpairs R sc ρ ks vs H).map fun x => (.own x.2.length, x.2 ++ [.dct (x.1.foldl (fun es p => setL es (.s p.1) p.2) [])]) else none
  | .Attribute o a _ => attrE T R sc o a ρ H
  | .Subscript o i _ => (match sliceE i with
    | some x => subS R sc o x.1 x.2.1 x.2.2 ρ H
    | none => subI R sc o i ρ H)
  | .ListComp elt gens scope _ => (oneGen gens).bind fun g => compE R sc elt g.1 g.2.1 g.2.2 scope ρ H
  | .Call f args ks pos => if ks.isEmpty then callE T R sc f args pos ρ H else none
  | _ => none
noncomputable def plainT (sc : Sc) (e : Expr) (ρ : Rho) (H : Hp) : Option (Bool × Hp) := (R.ex sc e ρ H).bind fun x => (truthy x.1).map fun b => (b, x.2)
noncomputable def stepTs (sc : Sc) (e : Expr) (ρ : Rho) (H : Hp) : Option (Bool × Hp) := match e with
  | .UnaryOp op x p => if op == .Not then (R.ts sc x ρ H).map fun b => (!b.1, b.2) else plainT R sc (.UnaryOp op x p) ρ H
  | .BoolOp op es _ => boolT R sc ρ op es H
  | .IfExp .. => none
  | .Compare l ops es _ => chainE R sc l ops es ρ H
  | e => plainT R sc e ρ H

/-! ## statements -/
noncomputable def setAttrD (k : Nat) (a : Str) (d : D) (H : Hp) : Option Hp := (H[k]?.bind fun o => if frzn o then none else oIns o).bind fun x => (T.cls x.1).bind fun cl => if cl.attrs.contains a && decide (x.2.length < 900) then some (H.set k (.ins x.1 (setA x.2 a d))) else none
noncomputable def dOwn : D → Option Nat | .own k => some k | _ => none
noncomputable def setItemD (k : Nat) (i d : D) (H : Hp) : Option Hp := (H[k]?.bind fun o => if frzn o then none else oDct o).bind fun es => (asKey i).bind fun key => if es.all (fun e => sameKind key e.1) && decide (es.length ≤ lim) then some (H.set k (.dct (setL es key d))) else none
/-- a store -/
noncomputable def assignD (sc : Sc) (t : Expr) (d : D) (ρ : Rho) (H : Hp) : Option (Rho × Hp) := match t with
  | .Attribute o a _ => if isCN o then none else (R.ex sc o ρ H).bind fun x => (dOwn x.1).bind fun k => (setAttrD T k a d x.2).map fun H' => (ρ, H')
  | .Subscript o i _ => (R.ex sc o ρ H).bind fun x => (R.ex sc i ρ x.2).bind fun y => (dOwn x.1).bind fun k => (setItemD k y.1 d y.2).map fun H' => (ρ, H')
  | t => (bindT sc 4 t d ρ).map fun ρ' => (ρ', H)
/-- a sum that is given a name may be changed later -/
noncomputable def binA (sc : Sc) (l : Expr) (op : Operator) (r : Expr) (ρ : Rho) (H : Hp) : Option (D × Hp) := (exV R sc l ρ H).bind fun a => (exV R sc r ρ a.2).bind fun b => match binV op a.1 b.1 with
  | some d => some (d, b.2)
  | none => (binL op a.1 b.1 b.2).map fun l => (.own b.2.length, b.2 ++ [.lst (dF l)])
noncomputable def exN (sc : Sc) (v : Expr) (ρ : Rho) (H : Hp) : Option (D × Hp) := match v with
  | .BinOp l op r _ => binA R sc l op r ρ H
  | .ListComp elt gens scope _ => (oneGen gens).bind fun g => compE R sc elt g.1 g.2.1 g.2.2 scope ρ H
  | v => R.ex sc v ρ H
noncomputable def exA (sc : Sc) (t v : Expr) (ρ : Rho) (H : Hp) : Option (D × Hp) := if (nameE t).isSome then exN R sc v ρ H else R.ex sc v ρ H
noncomputable def forL (sc : Sc) (t : Expr) (body : List Stmt) : List D → Rho → Hp → Option (Fl × Rho × Hp)
  | [], ρ, H => some (.next, ρ, H)
  | d :: r, ρ, H => (bindT sc 4 t d ρ).bind fun ρ' => (R.st sc body ρ' H).bind fun x => match x.1 with
    | .next => forL sc t body r x.2.1 x.2.2
    | .cont => forL sc t body r x.2.1 x.2.2
    | .brk => some (.next, x.2)
    | .ret d => some (.ret d, x.2)
noncomputable def whileL (sc : Sc) (c : Expr) (body : List Stmt) : Nat → Rho → Hp → Option (Fl × Rho × Hp)
  | 0, _, _ => none
  | n + 1, ρ, H => (R.ts sc c ρ H).bind fun b => cond b.1 ((R.st sc body ρ b.2).bind fun x => match x.1 with
      | .next => whileL sc c body n x.2.1 x.2.2
      | .cont => whileL sc c body n x.2.1 x.2.2
      | .brk => some (.next, x.2)
      | .ret d => some (.ret d, x.2)) (some (.next, ρ, b.2))
noncomputable def noValue (d : D) : Bool := dNone d || (dInt d).isSome
noncomputable def step1 (sc : Sc) (s : Stmt) (ρ : Rho) (H : Hp) : Option (Fl × Rho × Hp) := match s with
  | .Return o _ => (match o with
    | none => some (.ret (.f .none), ρ, H)
    | some e => (exV R sc e ρ H).map fun x => (.ret x.1, ρ, x.2))
  | .Assign ts v _ => (one ts).bind fun t => if !swapOk t v then none else (exA R sc t v ρ H).bind fun x => (assignD T R sc t x.1 ρ x.2).map fun y => (.next, y)
  | .AugAssign t op v _ => (nameE t).bind fun x => if !nameOk x then none else (var T sc ρ x).bind fun a => (R.ex sc v ρ H).bind fun b => (augI op a b.1).bind fun d => (putV sc ρ x d).map fun ρ' => (.next, ρ', b.2)
  | .Expr e _ => if !isCall e then none else (R.ex sc e ρ H).bind fun x => if noValue x.1 then some (.next, ρ, x.2) else none
  | .If c a b _ => (R.ts sc c ρ H).bind fun x => R.st sc (cond x.1 a b) ρ x.2
  | .For t it body els _ => if !els.isEmpty || isSet it || !tgtOk t it then none else (iters R sc it ρ H).bind fun x => forL R sc t body x.1 ρ x.2
  | .While c body els _ => if els.isEmpty then whileL R sc c body 200 ρ H else none
  | .Break _ => some (.brk, ρ, H)
  | .Continue _ => some (.cont, ρ, H)
  | _ => none
noncomputable def stepSt (sc : Sc) : List Stmt → Rho → Hp → Option (Fl × Rho × Hp)
  | [], ρ, H => some (.next, ρ, H)
  | s :: r, ρ, H => (step1 T R sc s ρ H).bind fun x => match x.1 with
    | .next => stepSt sc r x.2.1 x.2.2
    | f => some (f, x.2)
end
noncomputable def ev (T : Tabs) : Nat → Rec
  | 0 => ⟨fun _ _ _ _ => none, fun _ _ _ _ => none, fun _ _ _ _ => none⟩
  | n + 1 => ⟨stepEx T (ev T n), stepTs (ev T n), stepSt T (ev T n)⟩
end Mine

end
noncomputable section
set_option Elab.async false
set_option maxRecDepth 100000
/-! printed by gen_tab.py: the names that the law's text bears -/
open PySem PySem.W
namespace Mine
noncomputable def f_place_by_half : Fn := ⟨"place_by_half", 61, 60, (fnT 5), [], true⟩
noncomputable def f_is_hangul_syllable : Fn := ⟨"is_hangul_syllable", 68, 67, (fnT 15), [], true⟩
noncomputable def f_hangul_parts : Fn := ⟨"hangul_parts", 82, 81, (fnT 17), [], true⟩
noncomputable def f_form_mapping : Fn := ⟨"form_mapping", 96, 95, (fnT 20), [], true⟩
noncomputable def f_form_expanded : Fn := ⟨"form_expanded", 103, 102, (fnT 21), [], true⟩
noncomputable def f_ordered : Fn := ⟨"ordered", 110, 109, (fnT 22), [], true⟩
noncomputable def f_form_sorted : Fn := ⟨"form_sorted", 115, 114, (fnT 23), [], true⟩
noncomputable def f_decomposed : Fn := ⟨"decomposed", 123, 122, (fnT 24), [.bool false], true⟩
noncomputable def f_form_of : Fn := ⟨"form_of", 188, 187, (fnT 29), [.none], true⟩
noncomputable def f_nfd : Fn := ⟨"nfd", 195, 194, (fnT 30), [], true⟩
noncomputable def f_CollOptions_init : Fn := ⟨"__init__", 211, 210, (fnM 36 0), [.str (Str.ofString "shifted"), .int 3, .bool false, .str (Str.ofString ""), .bool false, .bool false, .none, .tup [.int 1, .int 1, .int 1]], false⟩
noncomputable def f_weighted : Fn := ⟨"weighted", 240, 239, (fnT 39), [.int 1], true⟩
noncomputable def f_is_upper_third : Fn := ⟨"is_upper_third", 248, 247, (fnT 40), [.int 1], true⟩
noncomputable def f_collkey_first : Fn := ⟨"collkey_first", 253, 252, (fnT 41), [], true⟩
noncomputable def f_collkey_second : Fn := ⟨"collkey_second", 258, 257, (fnT 42), [], true⟩
noncomputable def f_collkey_case : Fn := ⟨"collkey_case", 263, 262, (fnT 43), [], true⟩
noncomputable def f_collkey_third : Fn := ⟨"collkey_third", 268, 267, (fnT 44), [], true⟩
noncomputable def f_collkey_levels : Fn := ⟨"collkey_levels", 280, 279, (fnT 46), [], true⟩
noncomputable def f_collkey_level : Fn := ⟨"collkey_level", 287, 286, (fnT 47), [], true⟩
noncomputable def f_weights_key : Fn := ⟨"weights_key", 293, 292, (fnT 48), [.none], true⟩
noncomputable def f_elements_for : Fn := ⟨"elements_for", 300, 299, (fnT 49), [], true⟩
noncomputable def f_sort_key : Fn := ⟨"sort_key", 307, 306, (fnT 50), [], true⟩
noncomputable def f_compare_lists : Fn := ⟨"compare_lists", 314, 313, (fnT 51), [], true⟩
noncomputable def f_compare_weights : Fn := ⟨"compare_weights", 321, 320, (fnT 52), [], true⟩
noncomputable def f_compare : Fn := ⟨"compare", 328, 327, (fnT 53), [], true⟩
noncomputable def f_collkey_digit : Fn := ⟨"collkey_digit", 335, 334, (fnT 54), [], true⟩
noncomputable def f_collkey_figures : Fn := ⟨"collkey_figures", 340, 339, (fnT 55), [], true⟩
noncomputable def f_numbered_elements : Fn := ⟨"numbered_elements", 345, 344, (fnT 56), [], true⟩
noncomputable def f_key_levels : Fn := ⟨"key_levels", 352, 351, (fnT 57), [], true⟩
noncomputable def f_merged_keys : Fn := ⟨"merged_keys", 357, 356, (fnT 58), [], true⟩
noncomputable def f_prefix_bounds : Fn := ⟨"prefix_bounds", 364, 363, (fnT 59), [], true⟩
noncomputable def f_coll_ideographs : Fn := ⟨"coll_ideographs", 371, 370, (fnT 69), [], true⟩
noncomputable def f_CollBase_init : Fn := ⟨"__init__", 386, 385, (fnM 70 0), [.none], false⟩
noncomputable def f_CollMatch_init : Fn := ⟨"__init__", 419, 418, (fnM 72 0), [], false⟩
noncomputable def f_Elements_init : Fn := ⟨"__init__", 441, 440, (fnM 73 0), [.bool true], false⟩
noncomputable def f_Elements_put : Fn := ⟨"put", 448, 447, (fnM 73 1), [], false⟩
noncomputable def f_Elements_put_implicit : Fn := ⟨"put_implicit", 489, 488, (fnM 73 7), [.none], false⟩
noncomputable def f_Elements_match : Fn := ⟨"match", 508, 507, (fnM 73 10), [], true⟩
noncomputable def f_Elements_with_marks : Fn := ⟨"with_marks", 513, 512, (fnM 73 11), [], true⟩
noncomputable def f_Elements_located : Fn := ⟨"located", 518, 517, (fnM 73 12), [], true⟩
noncomputable def f_Elements_elements_of : Fn := ⟨"elements_of", 525, 524, (fnM 73 13), [], true⟩
noncomputable def f_coll_live : Fn := ⟨"coll_live", 539, 538, (fnT 74), [], true⟩
noncomputable def f_coll_decomposed : Fn := ⟨"coll_decomposed", 544, 543, (fnT 75), [], true⟩
noncomputable def f_range_are_like : Fn := ⟨"range_are_like", 551, 550, (fnT 77), [], true⟩
noncomputable def f_RangeMap_init : Fn := ⟨"__init__", 565, 564, (fnM 78 0), [], false⟩
noncomputable def f_RangeMap_get : Fn := ⟨"get", 572, 571, (fnM 78 1), [], true⟩
noncomputable def f_RangeMap_put : Fn := ⟨"put", 579, 578, (fnM 78 2), [], false⟩
noncomputable def f_data_defaults : Fn := ⟨"data_defaults", 612, 611, (fnT 81), [], true⟩
noncomputable def f_Data_init : Fn := ⟨"__init__", 626, 625, (fnM 82 0), [], false⟩
noncomputable def f_Data_put : Fn := ⟨"put", 633, 632, (fnM 82 1), [], false⟩
noncomputable def f_Data_get : Fn := ⟨"get", 640, 639, (fnM 82 2), [], true⟩
noncomputable def f_Data_map_of : Fn := ⟨"map_of", 647, 646, (fnM 82 3), [], false⟩
noncomputable def f_law_deck : Fn := ⟨"_law_deck", 660, 659, (fnT 85), [], false⟩
noncomputable def f_law_draw : Fn := ⟨"_law_draw", 667, 666, (fnT 86), [], false⟩
noncomputable def f_law_tables : Fn := ⟨"_law_tables", 674, 673, (fnT 87), [], true⟩
noncomputable def f_law_tokens : Fn := ⟨"_law_tokens", 681, 680, (fnT 88), [], true⟩
noncomputable def f_law_weights : Fn := ⟨"_law_weights", 686, 685, (fnT 89), [], true⟩
noncomputable def f_law_levels : Fn := ⟨"_law_levels", 691, 690, (fnT 90), [], true⟩
noncomputable def f_law_key : Fn := ⟨"_law_key", 698, 697, (fnT 91), [], true⟩
noncomputable def f_law_sign : Fn := ⟨"_law_sign", 705, 704, (fnT 92), [], true⟩
noncomputable def f_law : Fn := ⟨"law", 710, 709, (fnT 93), [], true⟩
noncomputable def c_CollOptions : Cl := ⟨"CollOptions", 214, ["factors", "how", "strength", "is_backwards", "case_first", "has_case_level", "is_numeric", "reorder"], [("__init__", f_CollOptions_init)]⟩
noncomputable def c_CollBase : Cl := ⟨"CollBase", 396, ["first", "last", "base", "origin"], [("__init__", f_CollBase_init)]⟩
noncomputable def c_CollMatch : Cl := ⟨"CollMatch", 422, ["elements", "places", "onward"], [("__init__", f_CollMatch_init)]⟩
noncomputable def c_Elements : Cl := ⟨"Elements", 528, ["table", "longest", "factors", "bases"], [("__init__", f_Elements_init), ("put", f_Elements_put), ("put_implicit", f_Elements_put_implicit), ("match", f_Elements_match), ("with_marks", f_Elements_with_marks), ("located", f_Elements_located), ("elements_of", f_Elements_elements_of)]⟩
noncomputable def c_RangeMap : Cl := ⟨"RangeMap", 594, ["default", "starts", "values"], [("__init__", f_RangeMap_init), ("get", f_RangeMap_get), ("put", f_RangeMap_put)]⟩
noncomputable def c_Data : Cl := ⟨"Data", 650, ["defaults", "maps", "properties", "words"], [("__init__", f_Data_init), ("put", f_Data_put), ("get", f_Data_get), ("map_of", f_Data_map_of)]⟩
noncomputable def fnsL : List Fn := [f_place_by_half, f_is_hangul_syllable, f_hangul_parts, f_form_mapping, f_form_expanded, f_ordered, f_form_sorted, f_decomposed, f_form_of, f_nfd, f_CollOptions_init, f_weighted, f_is_upper_third, f_collkey_first, f_collkey_second, f_collkey_case, f_collkey_third, f_collkey_levels, f_collkey_level, f_weights_key, f_elements_for, f_sort_key, f_compare_lists, f_compare_weights, f_compare, f_collkey_digit, f_collkey_figures, f_numbered_elements, f_key_levels, f_merged_keys, f_prefix_bounds, f_coll_ideographs, f_CollBase_init, f_CollMatch_init, f_Elements_init, f_Elements_put, f_Elements_put_implicit, f_Elements_match, f_Elements_with_marks, f_Elements_located, f_Elements_elements_of, f_coll_live, f_coll_decomposed, f_range_are_like, f_RangeMap_init, f_RangeMap_get, f_RangeMap_put, f_data_defaults, f_Data_init, f_Data_put, f_Data_get, f_Data_map_of, f_law_deck, f_law_draw, f_law_tables, f_law_tokens, f_law_weights, f_law_levels, f_law_key, f_law_sign, f_law]
noncomputable def clsL : List Cl := [c_CollOptions, c_CollBase, c_CollMatch, c_Elements, c_RangeMap, c_Data]
noncomputable def gE (x : String) (v : F) : Str × F := (Str.ofString x, v)
noncomputable def glL : List (Str × F) := [gE "place_by_half" (.glob (.ref 61)), gE "is_hangul_syllable" (.glob (.ref 68)), gE "hangul_parts" (.glob (.ref 82)), gE "form_mapping" (.glob (.ref 96)), gE "form_expanded" (.glob (.ref 103)), gE "ordered" (.glob (.ref 110)), gE "form_sorted" (.glob (.ref 115)), gE "decomposed" (.glob (.ref 123)), gE "form_of" (.glob (.ref 188)), gE "nfd" (.glob (.ref 195)), gE "weighted" (.glob (.ref 240)), gE "is_upper_third" (.glob (.ref 248)), gE "collkey_first" (.glob (.ref 253)), gE "collkey_second" (.glob (.ref 258)), gE "collkey_case" (.glob (.ref 263)), gE "collkey_third" (.glob (.ref 268)), gE "collkey_levels" (.glob (.ref 280)), gE "collkey_level" (.glob (.ref 287)), gE "weights_key" (.glob (.ref 293)), gE "elements_for" (.glob (.ref 300)), gE "sort_key" (.glob (.ref 307)), gE "compare_lists" (.glob (.ref 314)), gE "compare_weights" (.glob (.ref 321)), gE "compare" (.glob (.ref 328)), gE "collkey_digit" (.glob (.ref 335)), gE "collkey_figures" (.glob (.ref 340)), gE "numbered_elements" (.glob (.ref 345)), gE "key_levels" (.glob (.ref 352)), gE "merged_keys" (.glob (.ref 357)), gE "prefix_bounds" (.glob (.ref 364)), gE "coll_ideographs" (.glob (.ref 371)), gE "coll_live" (.glob (.ref 539)), gE "coll_decomposed" (.glob (.ref 544)), gE "range_are_like" (.glob (.ref 551)), gE "data_defaults" (.glob (.ref 612)), gE "_law_deck" (.glob (.ref 660)), gE "_law_draw" (.glob (.ref 667)), gE "_law_tables" (.glob (.ref 674)), gE "_law_tokens" (.glob (.ref 681)), gE "_law_weights" (.glob (.ref 686)), gE "_law_levels" (.glob (.ref 691)), gE "_law_key" (.glob (.ref 698)), gE "_law_sign" (.glob (.ref 705)), gE "law" (.glob (.ref 710)), gE "CollOptions" (.glob (.ref 214)), gE "CollBase" (.glob (.ref 396)), gE "CollMatch" (.glob (.ref 422)), gE "Elements" (.glob (.ref 528)), gE "RangeMap" (.glob (.ref 594)), gE "Data" (.glob (.ref 650)), gE "MAX_CODE" (.int 1114111), gE "SYLLABLE_FIRST" (.int 44032), gE "LEAD_FIRST" (.int 4352), gE "VOWEL_FIRST" (.int 4449), gE "TAIL_NONE" (.int 4519), gE "LEADS" (.int 19), gE "VOWELS" (.int 21), gE "TAILS" (.int 28), gE "SYLLABLES" (.int 11172), gE "COLLKEY_TOP" (.int 65535), gE "COLLKEY_SECOND" (.int 32), gE "COLLKEY_THIRD" (.int 2), gE "COLLKEY_FIGURES" (.int 254), gE "COLL_SECONDARY" (.int 32), gE "COLL_TERTIARY" (.int 2), gE "COLL_OTHERS" (.int 64448), gE "COLL_CORE" (.int 64320), gE "COLL_EXTENSIONS" (.int 64384), gE "COLL_REST_BIT" (.int 32768), gE "COLL_REST_MASK" (.int 32767), gE "COLL_REST_SHIFT" (.int 15), gE "_law_signs" (.tup [.int 97, .int 98, .int 65, .int 66, .int 48, .int 49, .int 50, .int 55])]
noncomputable def blL : List (Str × F) := [gE "len" (.glob (.builtin "len")), gE "max" (.glob (.builtin "max")), gE "min" (.glob (.builtin "min")), gE "isinstance" (.glob (.builtin "isinstance")), gE "sorted" (.glob (.builtin "sorted")), gE "int" (.glob (.type "int")), gE "range" (.glob (.type "range")), gE "list" (.glob (.type "list")), gE "tuple" (.glob (.type "tuple")), gE "bool" (.glob (.type "bool")), gE "enumerate" (.glob (.type "enumerate")), gE "zip" (.glob (.type "zip"))]
noncomputable def T : Tabs where
  gl x := (glL ++ blL).lookup x
  fns a := fnsL.find? fun f => f.addr == a
  cls a := clsL.find? fun c => c.addr == a
end Mine

end
noncomputable section
set_option Elab.async false
set_option maxRecDepth 100000
/-! what it means that a heap bears data -/
open PySem PySem.W PySem.Spec PySem.Calls PyProof.Rows
namespace Mine
/-! ## eliminations, the goal said once -/
theorem nn {α : Type} {y : α} {P : Prop} (h : none = some y) : P := nomatch h
theorem bE {α β : Type} {x : Option (α × Hp)} {f : α × Hp → Option β} {y : β} {P : Prop} (h : x.bind f = some y) (k : ∀ a H, x = some (a, H) → f (a, H) = some y → P) : P := by
  cases x with
  | none => exact nn h
  | some a => exact k a.1 a.2 rfl h
theorem b1 {α β : Type} {x : Option α} {f : α → Option β} {y : β} {P : Prop} (h : x.bind f = some y) (k : ∀ a, x = some a → f a = some y → P) : P := by
  cases x with
  | none => exact nn h
  | some a => exact k a rfl h
theorem m1 {α β : Type} {x : Option α} {f : α → β} {y : β} {P : β → Prop} (h : x.map f = some y) (k : ∀ a, x = some a → P (f a)) : P y := by
  cases x with
  | none => exact nn h
  | some a => cases h; exact k a rfl
theorem i1 {c : Prop} [Decidable c] {α : Type} {x : Option α} {y : α} {P : Prop} (h : (if c then x else none) = some y) (k : c → x = some y → P) : P := by
  by_cases q : c
  · rw [if_pos q] at h; exact k q h
  · rw [if_neg q] at h; exact nn h
theorem i0 {c : Prop} [Decidable c] {α : Type} {x : Option α} {y : α} {P : Prop} (h : (if c then none else x) = some y) (k : ¬ c → x = some y → P) : P := by
  by_cases q : c
  · rw [if_pos q] at h; exact nn h
  · rw [if_neg q] at h; exact k q h
theorem i2 {c : Prop} [Decidable c] {α : Type} {x z : Option α} {y : α} {P : Prop} (h : (if c then x else z) = some y) (k : c → x = some y → P) (l : ¬ c → z = some y → P) : P := by
  by_cases q : c
  · rw [if_pos q] at h; exact k q h
  · rw [if_neg q] at h; exact l q h
theorem s1 {α : Type} {x y : α} {P : α → Prop} (h : some x = some y) (k : P x) : P y := by cases h; exact k

noncomputable def isL (o : Obj) (vs : List Value) : Prop := ∃ n, o = { cls := .type "list", data := .seq vs.toArray n }
noncomputable def isT (o : Obj) (vs : List Value) : Prop := o.cls = .type "tuple" ∧ ∃ n, o.data = .seq vs.toArray n
noncomputable def isI (o : Obj) (c dx : Addr) : Prop := ∃ sl, o = ⟨.ref c, some dx, .plain, sl⟩
noncomputable def isA (o : Obj) (es : List DictEntry) : Prop := ∃ n, o = dictOf es n
noncomputable def isR (o : Obj) (x y : Int) : Prop := ∃ t u v, o = { cls := .type "range", data := .fields #[.int x t, .int y u, .int 1 v] }
noncomputable abbrev Pm := Addr → Obj → Prop
noncomputable abbrev Phi := List (Addr × Option Addr)
section
variable (w : World)
noncomputable def DictO {κ : Type} [DecidableEq κ] (knd : KeyKind pw w κ) (o : Obj) (kvs : List (κ × Value)) : Prop :=
  ∃ es ep, o.ExactDict ∧ o.data = .dict es ep ∧ KeysOf knd es ∧ Pairs knd es.toList kvs ∧ (kvs.map (·.1)).Nodup
noncomputable def DictOH (o : Obj) (xs : List (List Int × Addr × Value)) : Prop :=
  ∃ es ep, o.ExactDict ∧ o.data = .dict es ep ∧ es.toList = xs.map (entryOfKey (tupleKind (intKind pw w))) ∧ (xs.map (·.1)).Nodup
noncomputable def HeldT (p : Pm) (l : List (List Int × Addr × Value)) : Prop := ∀ x ∈ l, ∃ ok its, p x.2.1 ok ∧ isT ok its ∧ ItemsAre (intKind pw w) x.1 its
noncomputable abbrev kS (x : Str × Value) : Key × Value := (.s x.1, x.2)
noncomputable abbrev kI (x : Int × Value) : Key × Value := (.i x.1, x.2)
noncomputable abbrev kT (x : List Int × Addr × Value) : Key × Value := (.t x.1, x.2.2)
inductive isDk (p : Pm) (o : Obj) : List (Key × Value) → Prop
  | s (l : List (Str × Value)) : DictO w (strKind pw w) o l → isDk p o (l.map kS)
  | i (l : List (Int × Value)) : DictO w (intKind pw w) o l → isDk p o (l.map kI)
  | t (l : List (List Int × Addr × Value)) : DictOH w o l → HeldT w p l → isDk p o (l.map kT)
mutual
inductive VF (p : Pm) : Value → F → Prop
  | none : VF p .none .none
  | bool (b : Bool) : VF p (.bool b) (.bool b)
  | int (i : Int) (t : Tok) : VF p (.int i t) (.int i)
  | str (x : Str) (t : Tok) : VF p (.str x t) (.str x)
  | glob (v : Value) : VF p v (.glob v)
  | rng {a : Addr} {o : Obj} {x y : Int} : p a o → isR o x y → VF p (.ref a) (.rng x y)
  | tup {a : Addr} {o : Obj} {vs : List Value} {fs : List F} : p a o → isT o vs → VFs p vs fs → VF p (.ref a) (.tup fs)
  | lst {a : Addr} {o : Obj} {vs : List Value} {fs : List F} : p a o → isL o vs → VFs p vs fs → VF p (.ref a) (.lst fs)
  | dct {a : Addr} {o : Obj} {kvs : List (Key × Value)} {es : List (Key × F)} : p a o → (a == sysModules) = false → isDk w p o kvs → VKs p kvs es → VF p (.ref a) (.dct es)
  | ins {a dx c : Addr} {o od : Obj} {es : List DictEntry} {fs : List (Str × F)} : p a o → isI o c dx → p dx od → isA od es → VAs p es fs → VF p (.ref a) (.ins c fs)
inductive VFs (p : Pm) : List Value → List F → Prop
  | nil : VFs p [] []
  | cons {v : Value} {f : F} {vs : List Value} {fs : List F} : VF p v f → VFs p vs fs → VFs p (v :: vs) (f :: fs)
inductive VKs (p : Pm) : List (Key × Value) → List (Key × F) → Prop
  | nil : VKs p [] []
  | cons {k : Key} {v : Value} {f : F} {vs : List (Key × Value)} {fs : List (Key × F)} : VF p v f → VKs p vs fs → VKs p ((k, v) :: vs) ((k, f) :: fs)
inductive VAs (p : Pm) : List DictEntry → List (Str × F) → Prop
  | nil : VAs p [] []
  | cons {x : Str} {t : Tok} {n : Int} {v : Value} {f : F} {vs : List DictEntry} {fs : List (Str × F)} : VF p v f → VAs p vs fs → VAs p (⟨n, .str x t, v⟩ :: vs) ((x, f) :: fs)
end
variable {w}
theorem isDk.mono {p p' : Pm} {o : Obj} {kvs : List (Key × Value)} (hp : ∀ a o, p a o → p' a o) (h : isDk w p o kvs) : isDk w p' o kvs := by
  cases h with
  | s l h => exact .s l h
  | i l h => exact .i l h
  | t l h k => exact .t l h fun x hx => let ⟨ok, its, a, b⟩ := k x hx; ⟨ok, its, hp _ _ a, b⟩
section
variable {p p' : Pm} (hp : ∀ a o, p a o → p' a o)
include hp
theorem VF.mono {v : Value} {f : F} (V : VF w p v f) : VF w p' v f :=
  @VF.rec w p (fun v f _ => VF w p' v f) (fun v f _ => VFs w p' v f) (fun v f _ => VKs w p' v f) (fun v f _ => VAs w p' v f) .none .bool .int .str .glob (fun h r => .rng (hp _ _ h) r) (fun h r _ k => .tup (hp _ _ h) r k) (fun h r _ k => .lst (hp _ _ h) r k)
    (fun h s r _ k => .dct (hp _ _ h) s (r.mono hp) k) (fun h r h2 r2 _ k => .ins (hp _ _ h) r (hp _ _ h2) r2 k) .nil (fun _ _ a b => .cons a b) .nil (fun _ _ a b => .cons a b) .nil (fun _ _ a b => .cons a b) _ _ V
theorem VFs.mono {v : List Value} {f : List F} (V : VFs w p v f) : VFs w p' v f :=
  @VFs.rec w p (fun v f _ => VF w p' v f) (fun v f _ => VFs w p' v f) (fun v f _ => VKs w p' v f) (fun v f _ => VAs w p' v f) .none .bool .int .str .glob (fun h r => .rng (hp _ _ h) r) (fun h r _ k => .tup (hp _ _ h) r k) (fun h r _ k => .lst (hp _ _ h) r k)
    (fun h s r _ k => .dct (hp _ _ h) s (r.mono hp) k) (fun h r h2 r2 _ k => .ins (hp _ _ h) r (hp _ _ h2) r2 k) .nil (fun _ _ a b => .cons a b) .nil (fun _ _ a b => .cons a b) .nil (fun _ _ a b => .cons a b) _ _ V
end
theorem VKs.rel {p p' : Pm} {v : List (Key × Value)} {f : List (Key × F)} (V : VKs w p v f) (hp : ∀ a o, p a o → p' a o) : VKs w p' v f :=
  @VKs.rec w p (fun _ _ _ => True) (fun _ _ _ => True) (fun kvs es _ => VKs w p' kvs es) (fun _ _ _ => True) trivial (fun _ => trivial) (fun _ _ => trivial) (fun _ _ => trivial) (fun _ => trivial) (fun _ _ => trivial) (fun _ _ _ _ => trivial) (fun _ _ _ _ => trivial) (fun _ _ _ _ _ => trivial) (fun _ _ _ _ _ _ => trivial) trivial (fun _ _ _ _ => trivial)
    .nil (fun h _ _ ih => .cons (h.mono hp) ih) trivial (fun _ _ _ _ => trivial) _ _ V
theorem VAs.rel {p p' : Pm} {v : List DictEntry} {f : List (Str × F)} (V : VAs w p v f) (hp : ∀ a o, p a o → p' a o) : VAs w p' v f :=
  @VAs.rec w p (fun _ _ _ => True) (fun _ _ _ => True) (fun _ _ _ => True) (fun kvs es _ => VAs w p' kvs es) trivial (fun _ => trivial) (fun _ _ => trivial) (fun _ _ => trivial) (fun _ => trivial) (fun _ _ => trivial) (fun _ _ _ _ => trivial) (fun _ _ _ _ => trivial) (fun _ _ _ _ _ => trivial) (fun _ _ _ _ _ _ => trivial) trivial (fun _ _ _ _ => trivial)
    trivial (fun _ _ _ _ => trivial) .nil (fun h _ _ ih => .cons (h.mono hp) ih) _ _ V
variable (w)
mutual
inductive VD (p : Pm) (φ : Phi) : Value → D → Prop
  | f {v : Value} {x : F} : VF w p v x → VD p φ v (.f x)
  | own {k : Nat} {x : Addr × Option Addr} : φ[k]? = some x → VD p φ (.ref x.1) (.own k)
  | tup {a : Addr} {o : Obj} {vs : List Value} {ds : List D} : p a o → isT o vs → VDs p φ vs ds → VD p φ (.ref a) (.tup ds)
inductive VDs (p : Pm) (φ : Phi) : List Value → List D → Prop
  | nil : VDs p φ [] []
  | cons {v : Value} {d : D} {vs : List Value} {ds : List D} : VD p φ v d → VDs p φ vs ds → VDs p φ (v :: vs) (d :: ds)
end
inductive VKDs (p : Pm) (φ : Phi) : List (Key × Value) → List (Key × D) → Prop
  | nil : VKDs p φ [] []
  | cons {k : Key} {v : Value} {f : D} {vs : List (Key × Value)} {fs : List (Key × D)} : VD w p φ v f → VKDs p φ vs fs → VKDs p φ ((k, v) :: vs) ((k, f) :: fs)
inductive VADs (p : Pm) (φ : Phi) : List DictEntry → List (Str × D) → Prop
  | nil : VADs p φ [] []
  | cons {x : Str} {t : Tok} {n : Int} {v : Value} {f : D} {vs : List DictEntry} {fs : List (Str × D)} : VD w p φ v f → VADs p φ vs fs → VADs p φ (⟨n, .str x t, v⟩ :: vs) ((x, f) :: fs)
variable {w}
theorem pref_get {α : Type} {l l' : List α} (h : l <+: l') {k : Nat} {x : α} (e : l[k]? = some x) : l'[k]? = some x := by
  obtain ⟨r, rfl⟩ := h
  rw [List.getElem?_append_left (List.getElem?_eq_some_iff.mp e).1]; exact e
section
variable {p p' : Pm} {φ φ' : Phi} (hp : ∀ a o, p a o → p' a o) (hφ : φ <+: φ')
include hp hφ
theorem VD.mono {v : Value} {d : D} (V : VD w p φ v d) : VD w p' φ' v d :=
  @VD.rec w p φ (fun v d _ => VD w p' φ' v d) (fun v d _ => VDs w p' φ' v d) (fun h => .f (h.mono hp)) (fun h => .own (pref_get hφ h)) (fun h r _ k => .tup (hp _ _ h) r k) .nil (fun _ _ a b => .cons a b) _ _ V
theorem VDs.mono {v : List Value} {d : List D} (V : VDs w p φ v d) : VDs w p' φ' v d :=
  @VDs.rec w p φ (fun v d _ => VD w p' φ' v d) (fun v d _ => VDs w p' φ' v d) (fun h => .f (h.mono hp)) (fun h => .own (pref_get hφ h)) (fun h r _ k => .tup (hp _ _ h) r k) .nil (fun _ _ a b => .cons a b) _ _ V
theorem VKDs.mono {v : List (Key × Value)} {f : List (Key × D)} (h : VKDs w p φ v f) : VKDs w p' φ' v f :=
  @VKDs.rec w p φ (fun v d _ => VKDs w p' φ' v d) .nil (fun h _ ih => .cons (h.mono hp hφ) ih) _ _ h
theorem VADs.mono {v : List DictEntry} {f : List (Str × D)} (h : VADs w p φ v f) : VADs w p' φ' v f :=
  @VADs.rec w p φ (fun v d _ => VADs w p' φ' v d) .nil (fun h _ ih => .cons (h.mono hp hφ) ih) _ _ h
end

/-! ## what a value is, by its data -/
section
variable {p : Pm} {φ : Phi}
/-- a frozen value, seen by its data -/
noncomputable def VFi (w : World) (p : Pm) (v : Value) : F → Prop
  | .none => v = .none
  | .bool b => v = .bool b
  | .int i => ∃ t, v = .int i t
  | .str x => ∃ t, v = .str x t
  | .glob u => v = u
  | .rng x y => ∃ a o, v = .ref a ∧ p a o ∧ isR o x y
  | .tup fs => ∃ a o vs, v = .ref a ∧ p a o ∧ isT o vs ∧ VFs w p vs fs
  | .lst fs => ∃ a o vs, v = .ref a ∧ p a o ∧ isL o vs ∧ VFs w p vs fs
  | .dct es => ∃ a o kvs, v = .ref a ∧ p a o ∧ (a == sysModules) = false ∧ isDk w p o kvs ∧ VKs w p kvs es
  | .ins c fs => ∃ a o dx od es, v = .ref a ∧ p a o ∧ isI o c dx ∧ p dx od ∧ isA od es ∧ VAs w p es fs
theorem VF.inv {v : Value} {f : F} (V : VF w p v f) : VFi w p v f := by
  cases V with
  | none => exact rfl
  | bool b => exact rfl
  | int i t => exact ⟨t, rfl⟩
  | str x t => exact ⟨t, rfl⟩
  | glob => exact rfl
  | rng a b => exact ⟨_, _, rfl, a, b⟩
  | tup a b c => exact ⟨_, _, _, rfl, a, b, c⟩
  | lst a b c => exact ⟨_, _, _, rfl, a, b, c⟩
  | dct a b c d => exact ⟨_, _, _, rfl, a, b, c, d⟩
  | ins a b c d e => exact ⟨_, _, _, _, _, rfl, a, b, c, d, e⟩
noncomputable def VDi (w : World) (p : Pm) (φ : Phi) (v : Value) : D → Prop
  | .f x => VF w p v x
  | .own k => ∃ x, v = .ref x.1 ∧ φ[k]? = some x
  | .tup ds => ∃ a o vs, v = .ref a ∧ p a o ∧ isT o vs ∧ VDs w p φ vs ds
theorem VD.inv {v : Value} {d : D} (V : VD w p φ v d) : VDi w p φ v d := by
  cases V with
  | f h => exact h
  | own h => exact ⟨_, rfl, h⟩
  | tup a b c => exact ⟨_, _, _, rfl, a, b, c⟩
theorem VD.uf {v : Value} {x : F} (V : VD w p φ v (.f x)) : VF w p v x := V.inv
noncomputable def VFsi (w : World) (p : Pm) (vs : List Value) : List F → Prop
  | [] => vs = []
  | f :: fs => ∃ v r, vs = v :: r ∧ VF w p v f ∧ VFs w p r fs
theorem VFs.inv {vs : List Value} {fs : List F} (V : VFs w p vs fs) : VFsi w p vs fs := by
  cases V with
  | nil => exact rfl
  | cons a b => exact ⟨_, _, rfl, a, b⟩
noncomputable def VDsi (w : World) (p : Pm) (φ : Phi) (vs : List Value) : List D → Prop
  | [] => vs = []
  | f :: fs => ∃ v r, vs = v :: r ∧ VD w p φ v f ∧ VDs w p φ r fs
theorem VDs.inv {vs : List Value} {fs : List D} (V : VDs w p φ vs fs) : VDsi w p φ vs fs := by
  cases V with
  | nil => exact rfl
  | cons a b => exact ⟨_, _, rfl, a, b⟩
theorem VDs.one {vs : List Value} {d : D} (V : VDs w p φ vs [d]) : ∃ v, vs = [v] ∧ VD w p φ v d :=
  let ⟨v, _, e, h, k⟩ := V.inv; ⟨v, by rw [e, show _ = [] from k.inv], h⟩
theorem VDs.two {vs : List Value} {d e : D} (V : VDs w p φ vs [d, e]) : ∃ v u, vs = [v, u] ∧ VD w p φ v d ∧ VD w p φ u e :=
  let ⟨v, _, e, h, k⟩ := V.inv; let ⟨u, e2, h2⟩ := k.one; ⟨v, u, by rw [e, e2], h, h2⟩
theorem VDs.length {vs : List Value} {ds : List D} (V : VDs w p φ vs ds) : vs.length = ds.length :=
  @VDs.rec w p φ (fun _ _ _ => True) (fun vs ds _ => vs.length = ds.length) (fun _ => trivial) (fun _ => trivial) (fun _ _ _ _ => trivial) rfl (fun _ _ _ ih => congrArg (· + 1) ih) _ _ V
/-- an induction over the data of a list alone -/
theorem VFs.ind {P : List Value → List F → Prop} (h0 : P [] []) (h1 : ∀ v f vs fs, VF w p v f → VFs w p vs fs → P vs fs → P (v :: vs) (f :: fs)) {vs : List Value} {fs : List F} (V : VFs w p vs fs) : P vs fs := by
  induction fs generalizing vs with
  | nil => rw [show vs = [] from V.inv]; exact h0
  | cons f fs ih => obtain ⟨v, r, rfl, a, b⟩ := V.inv; exact h1 _ _ _ _ a b (ih b)
theorem VDs.ind {P : List Value → List D → Prop} (h0 : P [] []) (h1 : ∀ v f vs fs, VD w p φ v f → VDs w p φ vs fs → P vs fs → P (v :: vs) (f :: fs)) {vs : List Value} {fs : List D} (V : VDs w p φ vs fs) : P vs fs := by
  induction fs generalizing vs with
  | nil => rw [show vs = [] from V.inv]; exact h0
  | cons f fs ih => obtain ⟨v, r, rfl, a, b⟩ := V.inv; exact h1 _ _ _ _ a b (ih b)
theorem VFs.length {vs : List Value} {fs : List F} (V : VFs w p vs fs) : vs.length = fs.length := V.ind (P := fun vs fs => vs.length = fs.length) rfl fun _ _ _ _ _ _ ih => congrArg (· + 1) ih
theorem VDs.get {vs : List Value} {ds : List D} (V : VDs w p φ vs ds) : ∀ {k : Nat} {d : D}, ds[k]? = some d → ∃ v, vs[k]? = some v ∧ VD w p φ v d :=
  V.ind (P := fun vs ds => ∀ {k : Nat} {d : D}, ds[k]? = some d → ∃ v, vs[k]? = some v ∧ VD w p φ v d) (fun e => nn e) fun v f vs fs h _ ih k d e => by
    cases k with
    | zero => cases e; exact ⟨v, rfl, h⟩
    | succ k => exact ih (k := k) e
theorem VDs.append {ws : List Value} {es : List D} (k : VDs w p φ ws es) {vs : List Value} {ds : List D} (V : VDs w p φ vs ds) : VDs w p φ (vs ++ ws) (ds ++ es) :=
  V.ind (P := fun vs ds => VDs w p φ (vs ++ ws) (ds ++ es)) k fun _ _ _ _ h _ ih => .cons h ih
theorem VFs.append {ws : List Value} {es : List F} (k : VFs w p ws es) {vs : List Value} {ds : List F} (V : VFs w p vs ds) : VFs w p (vs ++ ws) (ds ++ es) :=
  V.ind (P := fun vs ds => VFs w p (vs ++ ws) (ds ++ es)) k fun _ _ _ _ h _ ih => .cons h ih
theorem VFs.toD {vs : List Value} {fs : List F} (V : VFs w p vs fs) : VDs w p φ vs (dF fs) :=
  V.ind (P := fun vs fs => VDs w p φ vs (dF fs)) .nil fun _ _ _ _ h _ ih => .cons (.f h) ih
theorem VKs.toD {kvs : List (Key × Value)} {es : List (Key × F)} (V : VKs w p kvs es) : VKDs w p φ kvs (es.map fun e => (e.1, .f e.2)) :=
  @VKs.rec w p (fun _ _ _ => True) (fun _ _ _ => True) (fun kvs es _ => VKDs w p φ kvs (es.map fun e => (e.1, .f e.2))) (fun _ _ _ => True) trivial (fun _ => trivial) (fun _ _ => trivial) (fun _ _ => trivial) (fun _ => trivial) (fun _ _ => trivial) (fun _ _ _ _ => trivial) (fun _ _ _ _ => trivial) (fun _ _ _ _ _ => trivial) (fun _ _ _ _ _ _ => trivial) trivial (fun _ _ _ _ => trivial)
    .nil (fun h _ _ ih => .cons (.f h) ih) trivial (fun _ _ _ _ => trivial) _ _ V
theorem VAs.toD {kvs : List DictEntry} {es : List (Str × F)} (V : VAs w p kvs es) : VADs w p φ kvs (es.map fun e => (e.1, .f e.2)) :=
  @VAs.rec w p (fun _ _ _ => True) (fun _ _ _ => True) (fun _ _ _ => True) (fun kvs es _ => VADs w p φ kvs (es.map fun e => (e.1, .f e.2))) trivial (fun _ => trivial) (fun _ _ => trivial) (fun _ _ => trivial) (fun _ => trivial) (fun _ _ => trivial) (fun _ _ _ _ => trivial) (fun _ _ _ _ => trivial) (fun _ _ _ _ _ => trivial) (fun _ _ _ _ _ _ => trivial) trivial (fun _ _ _ _ => trivial)
    trivial (fun _ _ _ _ => trivial) .nil (fun h _ _ ih => .cons (.f h) ih) _ _ V
theorem unF_eq {d : D} {f : F} (h : unF d = some f) : d = .f f := by
  cases d with
  | f v => cases h; rfl
  | own _ => exact nn h
  | tup _ => exact nn h
theorem VDs.ofF {vs : List Value} {ds : List D} (V : VDs w p φ vs ds) : ∀ {fs : List F}, toFs ds = some fs → VFs w p vs fs :=
  V.ind (P := fun vs ds => ∀ {fs : List F}, toFs ds = some fs → VFs w p vs fs) (fun e => by cases e; exact .nil) fun v d vs ds h _ ih fs e =>
    b1 e fun f e1 e => m1 (P := fun fs => VFs w p (v :: vs) fs) e fun r e2 => .cons (by rw [unF_eq e1] at h; exact h.uf) (ih e2)
theorem toD_map (l : List F) : dF l = l.map .f := rfl
end
end
end Mine

end
noncomputable section
set_option Elab.async false
set_option maxRecDepth 100000
/-! the state that the evaluator's run stands for, and how it moves -/
open PySem PySem.W PySem.Spec PySem.Calls PyProof.Rows
namespace Mine

noncomputable def adr (x : Addr × Option Addr) : List Addr := x.1 :: x.2.toList
noncomputable def Lv (φ : Phi) (H : Hp) (a : Addr) : Prop := a = 112 ∨ ∃ (k : Nat) (x : Addr × Option Addr) (O : O), φ[k]? = some x ∧ H[k]? = some O ∧ frzn O = false ∧ a ∈ adr x
/-- an object stands there -/
noncomputable def Al (s : Shared) (a : Addr) : Prop := ∃ o, s.heap.get? a = some o
theorem Al.keeps {s s' : Shared} {a : Addr} (h : Al s a) (hk : ∀ a o, s.heap.get? a = some o → s'.heap.get? a = some o) : Al s' a := let ⟨o, e⟩ := h; ⟨o, hk a o e⟩
theorem noAl (s : Shared) : ¬ Al s s.heap.objs.size := fun ⟨_, e⟩ => Nat.lt_irrefl _ (Heap.lt_size e)
structure Cf where
  p : Pm
  φ : Phi
  H : Hp
  s : Shared

section
variable (w : World)
inductive Tr (p : Pm) (φ : Phi) (h : Heap) : Addr × Option Addr → O → Prop
  | lst {a : Addr} {o : Obj} {vs : List Value} {ds : List D} : h.get? a = some o → isL o vs → VDs w p φ vs ds → Tr p φ h (a, none) (.lst ds)
  | dct {a : Addr} {o : Obj} {kvs : List (Key × Value)} {es : List (Key × D)} : h.get? a = some o → (a == sysModules) = false → isDk w p o kvs → VKDs w p φ kvs es → Tr p φ h (a, none) (.dct es)
  | ins {a dx c : Addr} {o od : Obj} {es : List DictEntry} {fs : List (Str × D)} : h.get? a = some o → isI o c dx → h.get? dx = some od → isA od es → VADs w p φ es fs → Tr p φ h (a, some dx) (.ins c fs)
  | frz {a : Addr} {dx : Option Addr} {v : F} : VF w p (.ref a) v → Tr p φ h (a, dx) (.frz v)

noncomputable def TabOk (h : Heap) : Prop := ∃ ps, h.get? 112 = some (tabObj ps) ∧ TriplesOk ps.toList

structure Wd (g : Heap) (c : Cf) : Prop where
  sub : ∀ a o, c.p a o → c.s.heap.get? a = some o
  grd : ∀ a o, g.get? a = some o → c.p a o
  len : c.φ.length = c.H.length
  nd : ∀ (k k' : Nat) (x x' : Addr × Option Addr) (a : Addr), c.φ[k]? = some x → c.φ[k']? = some x' → a ∈ adr x → a ∈ adr x' → k = k'
  ne : ∀ (k : Nat) (a dx : Addr), c.φ[k]? = some (a, some dx) → a ≠ dx
  no : ∀ (k : Nat) (x : Addr × Option Addr), c.φ[k]? = some x → (112 : Addr) ∉ adr x
  lt : ∀ (k : Nat) (x : Addr × Option Addr) (a : Addr), c.φ[k]? = some x → a ∈ adr x → Al c.s a
  np : ∀ a o, Lv c.φ c.H a → ¬ c.p a o
  tr : ∀ (k : Nat) (x : Addr × Option Addr) (O : O), c.φ[k]? = some x → c.H[k]? = some O → Tr w c.p c.φ c.s.heap x O
  tab : TabOk c.s.heap
end

noncomputable def inφ (φ : Phi) (a : Addr) : Prop := ∃ (k : Nat) (x : Addr × Option Addr), φ[k]? = some x ∧ a ∈ adr x
structure Go (X : List Addr) (c c' : Cf) : Prop where
  ps : ∀ a o, c.p a o → c'.p a o
  pn : ∀ a o, c'.p a o → c.p a o ∨ ¬ Al c.s a ∨ Lv c.φ c.H a
  fs : c.φ <+: c'.φ
  kp : ∀ a o, c.s.heap.get? a = some o → ¬ Lv c.φ c.H a → a ∉ X → c'.s.heap.get? a = some o
  lv : ∀ a, Lv c'.φ c'.H a → Lv c.φ c.H a ∨ ¬ Al c.s a
  sz : ∀ a, Al c.s a → Al c'.s a
  st : c'.s = { c.s with heap := c'.s.heap, toks := c'.s.toks }
  ph : ∀ a, inφ c'.φ a → inφ c.φ a ∨ ¬ Al c.s a

theorem Go.refl {X : List Addr} {c : Cf} : Go X c c := ⟨fun _ _ h => h, fun _ _ h => .inl h, List.prefix_refl _, fun _ _ h _ _ => h, fun _ h => .inl h, fun _ h => h, rfl, fun _ h => .inl h⟩
theorem Go.trans {X : List Addr} {c c' c'' : Cf} (x : Go X c c') (y : Go X c' c'') : Go X c c'' where
  ps a o h := y.ps a o (x.ps a o h)
  pn a o h := by
    rcases y.pn a o h with h | h | h
    · exact x.pn a o h
    · exact .inr (.inl fun q => h (x.sz a q))
    · rcases x.lv a h with h | h
      · exact .inr (.inr h)
      · exact .inr (.inl h)
  fs := x.fs.trans y.fs
  kp a o h hl hx := y.kp a o (x.kp a o h hl hx) (fun l => by
    rcases x.lv a l with h' | h'
    · exact hl h'
    · exact h' ⟨_, h⟩) hx
  lv a h := by
    rcases y.lv a h with h | h
    · exact x.lv a h
    · exact .inr fun q => h (x.sz a q)
  sz a h := y.sz a (x.sz a h)
  st := by rw [y.st, x.st]
  ph a h := (y.ph a h).elim (x.ph a) fun h => .inr fun q => h (x.sz a q)
theorem Go.wider {X Y : List Addr} {c c' : Cf} (x : Go X c c') (h : ∀ a, a ∈ X → a ∈ Y) : Go Y c c' := ⟨x.ps, x.pn, x.fs, fun a o e l n => x.kp a o e l fun m => n (h a m), x.lv, x.sz, x.st, x.ph⟩
theorem Go.toX {X : List Addr} {c c' : Cf} (x : Go [] c c') : Go X c c' := x.wider fun _ h => absurd h List.not_mem_nil
/-- what lay fresh when the run began need not be named -/
theorem Go.fresh {X : List Addr} {c c' : Cf} (x : Go X c c') (h : ∀ a ∈ X, ¬ Al c.s a) : Go [] c c' :=
  ⟨x.ps, x.pn, x.fs, fun a o e l _ => x.kp a o e l fun m => h a m ⟨_, e⟩, x.lv, x.sz, x.st, x.ph⟩

section
variable {w : World} {g : Heap} {c : Cf}
theorem Tr.mono {p p' : Pm} {φ φ' : Phi} {h h' : Heap} {x : Addr × Option Addr} {O : Mine.O} (hp : ∀ a o, p a o → p' a o) (hφ : φ <+: φ') (t : Tr w p φ h x O) (hh : frzn O = false → ∀ a ∈ adr x, ∀ o, h.get? a = some o → h'.get? a = some o) : Tr w p' φ' h' x O := by
  cases t with
  | lst a b d => exact .lst (hh rfl _ (.head _) _ a) b (d.mono hp hφ)
  | dct a e b d => exact .dct (hh rfl _ (.head _) _ a) e (b.mono hp) (d.mono hp hφ)
  | ins a b d e f => exact .ins (hh rfl _ (.head _) _ a) b (hh rfl _ (.tail _ (.head _)) _ d) e (f.mono hp hφ)
  | frz v => exact .frz (v.mono hp)
theorem Tr.keep {p : Pm} {φ : Phi} {h h' : Heap} {x : Addr × Option Addr} {O : Mine.O} (t : Tr w p φ h x O) (hh : frzn O = false → ∀ a ∈ adr x, ∀ o, h.get? a = some o → h'.get? a = some o) : Tr w p φ h' x O :=
  t.mono (fun _ _ h => h) (List.prefix_refl _) hh
/-- the heap grew by what the run does not name -/
theorem Wd.grow (W : Wd w g c) {s' : Shared} (hk : ∀ a o, c.s.heap.get? a = some o → s'.heap.get? a = some o) (he : s' = { c.s with heap := s'.heap, toks := s'.toks }) :
    Wd w g { c with s := s' } ∧ Go [] c { c with s := s' } := by
  refine ⟨⟨fun a o h => hk a o (W.sub a o h), W.grd, W.len, W.nd, W.ne, W.no, fun k x a h m => (W.lt k x a h m).keeps hk, W.np, fun k x O h1 h2 => (W.tr k x O h1 h2).keep fun _ a _ o e => hk a o e, let ⟨ps, a, b⟩ := W.tab; ⟨ps, hk _ _ a, b⟩⟩,
    ⟨fun _ _ h => h, fun _ _ h => .inl h, List.prefix_refl _, fun a o h _ _ => hk a o h, fun _ h => .inl h, fun a h => h.keeps hk, he, fun _ h => .inl h⟩⟩
theorem Wd.tok (W : Wd w g c) (t : Tok) : Wd w g { c with s := { c.s with toks := t } } ∧ Go [] c { c with s := { c.s with toks := t } } :=
  W.grow (fun _ _ h => h) rfl

noncomputable def addP (p : Pm) (a : Addr) (o : Obj) : Pm := fun b x => p b x ∨ (b = a ∧ x = o)
theorem addP_l {p : Pm} {a : Addr} {o : Obj} : ∀ b x, p b x → addP p a o b x := fun _ _ h => .inl h
theorem addP_r {p : Pm} {a : Addr} {o : Obj} : addP p a o a o := .inr ⟨rfl, rfl⟩

/-- a new object that stays as it is, in a heap that grew -/
theorem Wd.hold (W : Wd w g c) {a : Addr} {o : Obj} (ha : c.s.heap.get? a = some o) (hl : ¬ Lv c.φ c.H a) : Wd w g { c with p := addP c.p a o } := by
  refine ⟨fun b x h => ?_, fun b x h => .inl (W.grd b x h), W.len, W.nd, W.ne, W.no, W.lt, fun b x h k => ?_, fun k x O h1 h2 => (W.tr k x O h1 h2).mono addP_l (List.prefix_refl _) fun _ _ _ _ h => h, W.tab⟩
  · rcases h with h | ⟨rfl, rfl⟩
    · exact W.sub b x h
    · exact ha
  · rcases k with k | ⟨rfl, rfl⟩
    · exact W.np b x h k
    · exact hl h
theorem Wd.lvlt (W : Wd w g c) {a : Addr} (h : Lv c.φ c.H a) : Al c.s a := by
  rcases h with rfl | ⟨k, x, O, h1, h2, h3, h4⟩
  · obtain ⟨ps, e, _⟩ := W.tab; exact ⟨_, e⟩
  · exact W.lt k x a h1 h4
/-- objects that the run made and that stay as they are -/
theorem Wd.grown (W : Wd w g c) {s' : Shared} (hk : ∀ a o, c.s.heap.get? a = some o → s'.heap.get? a = some o) (he : s' = { c.s with heap := s'.heap, toks := s'.toks })
    {a : Addr} {o : Obj} (ha : s'.heap.get? a = some o) (hf : ¬ Al c.s a) :
    Wd w g { c with s := s', p := addP c.p a o } ∧ Go [] c { c with s := s', p := addP c.p a o } := by
  obtain ⟨W1, G1⟩ := W.grow hk he
  refine ⟨W1.hold ha fun l => hf (W.lvlt l), ⟨addP_l, fun b x h => ?_, G1.fs, G1.kp, G1.lv, G1.sz, he, fun _ h => .inl h⟩⟩
  rcases h with h | ⟨rfl, rfl⟩
  · exact .inl h
  · exact .inr (.inl hf)

theorem get_snoc {α : Type} {l : List α} {y z : α} {k : Nat} (h : (l ++ [y])[k]? = some z) : (l[k]? = some z) ∨ (k = l.length ∧ z = y) := by
  rw [List.getElem?_append] at h
  split at h
  · exact .inl h
  · rename_i q
    cases hk : k - l.length with
    | zero => rw [hk] at h; cases h; exact .inr ⟨by omega, rfl⟩
    | succ n => rw [hk] at h; cases h
theorem snoc_get {α : Type} {l : List α} {y : α} : (l ++ [y])[l.length]? = some y := by simp
theorem lv_snoc {φ : Phi} {H : Hp} {x : Addr × Option Addr} {O : Mine.O} (hlen : φ.length = H.length) {a : Addr} (h : Lv (φ ++ [x]) (H ++ [O]) a) : Lv φ H a ∨ a ∈ adr x := by
  rcases h with rfl | ⟨k, y, P, h1, h2, h3, h4⟩
  · exact .inl (.inl rfl)
  · rcases get_snoc h1 with h1 | ⟨rfl, rfl⟩
    · rcases get_snoc h2 with h2 | ⟨rfl, rfl⟩
      · exact .inl (.inr ⟨k, y, P, h1, h2, h3, h4⟩)
      · have := (List.getElem?_eq_some_iff.mp h1).1; omega
    · exact .inr h4
/-- a new object of the run's own -/
theorem Wd.own (W : Wd w g c) {s' : Shared} (hk : ∀ a o, c.s.heap.get? a = some o → s'.heap.get? a = some o) (he : s' = { c.s with heap := s'.heap, toks := s'.toks })
    {x : Addr × Option Addr} {O : Mine.O} (hf : ∀ a ∈ adr x, ¬ Al c.s a) (hl : ∀ a ∈ adr x, Al s' a) (hn : ∀ dx, x.2 = some dx → x.1 ≠ dx)
    (ht : Tr w c.p (c.φ ++ [x]) s'.heap x O) :
    Wd w g ⟨c.p, c.φ ++ [x], c.H ++ [O], s'⟩ ∧ Go [] c ⟨c.p, c.φ ++ [x], c.H ++ [O], s'⟩ := by
  obtain ⟨W1, G1⟩ := W.grow hk he
  have e112 : Al c.s 112 := W.lvlt (.inl rfl)
  refine ⟨⟨W1.sub, W1.grd, by simp [W.len], fun k k' y y' a h h' m m' => ?_, fun k a dx h => ?_, fun k y h m => ?_, fun k y a h m => ?_, fun a o h hp => ?_, fun k y P h1 h2 => ?_, W1.tab⟩,
    ⟨fun _ _ h => h, fun _ _ h => .inl h, List.prefix_append _ _, G1.kp, fun a h => ?_, G1.sz, he, fun a ⟨k, y, h, m⟩ => (get_snoc h).elim (fun h => .inl ⟨k, y, h, m⟩) fun e => .inr (hf a (e.2 ▸ m))⟩⟩
  · rcases get_snoc h with q | ⟨e1, e2⟩ <;> rcases get_snoc h' with q' | ⟨e3, e4⟩
    · exact W.nd _ _ _ _ a q q' m m'
    · subst e4; exact absurd (W.lt _ _ a q m) (hf a m')
    · subst e2; exact absurd (W.lt _ _ a q' m') (hf a m)
    · exact e1.trans e3.symm
  · rcases get_snoc h with h | ⟨rfl, rfl⟩
    · exact W.ne k a dx h
    · exact hn dx rfl
  · rcases get_snoc h with h | ⟨rfl, rfl⟩
    · exact W.no k y h m
    · exact absurd e112 (hf _ m)
  · rcases get_snoc h with h | ⟨rfl, rfl⟩
    · exact W1.lt k y a h m
    · exact hl a m
  · rcases lv_snoc W.len h with h | h
    · exact W.np a o h hp
    · exact absurd ⟨_, W.sub a o hp⟩ (hf a h)
  · rcases get_snoc h1 with q1 | ⟨e1, e2⟩ <;> rcases get_snoc h2 with q2 | ⟨e3, e4⟩
    · exact (W1.tr k y P q1 q2).mono (fun _ _ h => h) (List.prefix_append _ _) fun _ _ _ _ h => h
    · have z := (List.getElem?_eq_some_iff.mp q1).1; have := W.len; omega
    · have z := (List.getElem?_eq_some_iff.mp q2).1; have := W.len; omega
    · subst e2; subst e4; exact ht
  · rcases lv_snoc W.len h with h | h
    · exact .inl h
    · exact .inr (hf a h)

/-- an object that was made since, now the run's own -/
theorem Wd.own' {c₀ : Cf} (W₀ : Wd w g c₀) (W : Wd w g c) (G : Go [] c₀ c) {s' : Shared} {x : Addr × Option Addr} {O : Mine.O}
    (hk : ∀ a o, a ∉ adr x → c.s.heap.get? a = some o → s'.heap.get? a = some o) (he : s' = { c.s with heap := s'.heap, toks := s'.toks })
    (hf : ∀ a ∈ adr x, ¬ Al c₀.s a) (hl : ∀ a ∈ adr x, Al s' a) (hp : ∀ a ∈ adr x, ∀ o, ¬ c.p a o) (hφ : ∀ a ∈ adr x, ¬ inφ c.φ a) (hn : ∀ dx, x.2 = some dx → x.1 ≠ dx)
    (ht : Tr w c.p (c.φ ++ [x]) s'.heap x O) :
    Wd w g ⟨c.p, c.φ ++ [x], c.H ++ [O], s'⟩ ∧ Go [] c₀ ⟨c.p, c.φ ++ [x], c.H ++ [O], s'⟩ := by
  have e112 : Al c₀.s 112 := W₀.lvlt (.inl rfl)
  have h112 : (112 : Addr) ∉ adr x := fun m => absurd e112 (hf _ m)
  have hs : ∀ a, Al c.s a → Al s' a := fun a ⟨o, e⟩ => (Classical.em (a ∈ adr x)).elim (hl a) fun m => ⟨o, hk a o m e⟩
  refine ⟨⟨fun a o h => hk a o (fun m => hp a m o h) (W.sub a o h), W.grd, by simp [W.len], fun k k' y y' a h h' m m' => ?_, fun k a dx h => ?_, fun k y h m => ?_, fun k y a h m => ?_, fun a o h hq => ?_, fun k y P h1 h2 => ?_, let ⟨ps, a, b⟩ := W.tab; ⟨ps, hk _ _ h112 a, b⟩⟩,
    ⟨G.ps, G.pn, G.fs.trans (List.prefix_append _ _), fun a o h l n => hk a o (fun m => hf a m ⟨_, h⟩) (G.kp a o h l n), fun a h => ?_, fun a h => hs a (G.sz a h), by rw [he, G.st],
      fun a ⟨k, y, h, m⟩ => (get_snoc h).elim (fun h => G.ph a ⟨k, y, h, m⟩) fun e => .inr (hf a (e.2 ▸ m))⟩⟩
  · rcases get_snoc h with q | ⟨e1, e2⟩ <;> rcases get_snoc h' with q' | ⟨e3, e4⟩
    · exact W.nd _ _ _ _ a q q' m m'
    · subst e4; exact absurd ⟨_, _, q, m⟩ (hφ a m')
    · subst e2; exact absurd ⟨_, _, q', m'⟩ (hφ a m)
    · exact e1.trans e3.symm
  · rcases get_snoc h with q | ⟨e1, e2⟩
    · exact W.ne k a dx q
    · subst e2; exact hn dx rfl
  · rcases get_snoc h with q | ⟨e1, e2⟩
    · exact W.no k y q m
    · subst e2; exact h112 m
  · rcases get_snoc h with q | ⟨e1, e2⟩
    · exact hs a (W.lt k y a q m)
    · subst e2; exact hl a m
  · rcases lv_snoc W.len h with h | h
    · exact W.np a o h hq
    · exact hp a h o hq
  · rcases get_snoc h1 with q1 | ⟨e1, e2⟩ <;> rcases get_snoc h2 with q2 | ⟨e3, e4⟩
    · have out : ∀ a ∈ adr y, a ∉ adr x := fun a m m' => hφ a m' ⟨_, _, q1, m⟩
      exact (W.tr k y P q1 q2).mono (fun _ _ h => h) (List.prefix_append _ _) fun _ a m o e => hk a o (out a m) e
    · have z := (List.getElem?_eq_some_iff.mp q1).1; have := W.len; omega
    · have z := (List.getElem?_eq_some_iff.mp q2).1; have := W.len; omega
    · subst e2; subst e4; exact ht
  · rcases lv_snoc W.len h with h | h
    · exact G.lv a h
    · exact .inr (hf a h)

theorem get_set {α : Type} {l : List α} {k j : Nat} {y z : α} (h : (l.set k y)[j]? = some z) : (j = k ∧ z = y ∧ k < l.length) ∨ (j ≠ k ∧ l[j]? = some z) := by
  rw [List.getElem?_set] at h
  split at h
  · rename_i q; subst q; split at h
    · cases h; exact .inl ⟨rfl, rfl, by assumption⟩
    · cases h
  · rename_i q; exact .inr ⟨Ne.symm q, h⟩
theorem lv_set {φ : Phi} {H : Hp} {k : Nat} {x : Addr × Option Addr} {O O' : Mine.O} (hx : φ[k]? = some x) (hO : H[k]? = some O) (hf : frzn O = false) {a : Addr} (h : Lv φ (H.set k O') a) : Lv φ H a := by
  rcases h with rfl | ⟨j, y, P, h1, h2, h3, h4⟩
  · exact .inl rfl
  · rcases get_set h2 with ⟨rfl, rfl, _⟩ | ⟨_, h2⟩
    · rw [hx] at h1; cases h1; exact .inr ⟨j, x, O, hx, hO, hf, h4⟩
    · exact .inr ⟨j, y, P, h1, h2, h3, h4⟩
theorem lv_self {φ : Phi} {H : Hp} {k : Nat} {x : Addr × Option Addr} {O : Mine.O} (hx : φ[k]? = some x) (hO : H[k]? = some O) (hf : frzn O = false) {a : Addr} (h : a ∈ adr x) : Lv φ H a := .inr ⟨k, x, O, hx, hO, hf, h⟩
/-- an object of the run's own changed -/
theorem Wd.put (W : Wd w g c) {k : Nat} {x : Addr × Option Addr} {O O' : Mine.O} (hx : c.φ[k]? = some x) (hO : c.H[k]? = some O) (hf : frzn O = false) {s' : Shared}
    (hk : ∀ a o, a ∉ adr x → c.s.heap.get? a = some o → s'.heap.get? a = some o) (he : s' = { c.s with heap := s'.heap, toks := s'.toks })
    (hf' : frzn O' = false) (ht : Tr w c.p c.φ s'.heap x O') :
    Wd w g { c with H := c.H.set k O', s := s' } ∧ Go [] c { c with H := c.H.set k O', s := s' } := by
  have hL : ∀ a ∈ adr x, Lv c.φ c.H a := fun a => lv_self hx hO hf
  have hl : ∀ a ∈ adr x, Al s' a := fun a m => by
    cases ht with
    | lst h1 _ _ => rcases List.mem_cons.mp m with rfl | m; exact ⟨_, h1⟩; cases m
    | dct h1 _ _ _ => rcases List.mem_cons.mp m with rfl | m; exact ⟨_, h1⟩; cases m
    | ins h1 _ h2 _ _ =>
      rcases List.mem_cons.mp m with rfl | m
      · exact ⟨_, h1⟩
      · rcases List.mem_cons.mp m with rfl | m
        · exact ⟨_, h2⟩
        · cases m
    | frz _ => cases hf'
  have hs : ∀ a, Al c.s a → Al s' a := fun a ⟨o, e⟩ => (Classical.em (a ∈ adr x)).elim (hl a) fun m => ⟨o, hk a o m e⟩
  refine ⟨⟨fun a o h => hk a o (fun m => W.np a o (hL a m) h) (W.sub a o h), W.grd, by simp [W.len], W.nd, W.ne, W.no, fun k x a h m => hs a (W.lt k x a h m), fun a o h => W.np a o (lv_set hx hO hf h),
      fun j y P h1 h2 => ?_, let ⟨ps, a, b⟩ := W.tab; ⟨ps, hk _ _ (W.no k x hx) a, b⟩⟩,
    ⟨fun _ _ h => h, fun _ _ h => .inl h, List.prefix_refl _, fun a o h l _ => hk a o (fun m => l (hL a m)) h, fun a h => .inl (lv_set hx hO hf h), hs, he, fun _ h => .inl h⟩⟩
  rcases get_set h2 with ⟨rfl, rfl, _⟩ | ⟨ne, h2⟩
  · rw [hx] at h1; cases h1; exact ht
  · have out : ∀ a ∈ adr y, a ∉ adr x := fun a m m' => ne (W.nd _ _ _ _ a h1 hx m m')
    exact (W.tr j y P h1 h2).keep fun _ a m o e => hk a o (out a m) e

/-- an object of the run's own that will stay as it is -/
theorem Wd.freeze (W : Wd w g c) {k : Nat} {x : Addr × Option Addr} {O : Mine.O} (hx : c.φ[k]? = some x) (hO : c.H[k]? = some O) (hf : frzn O = false) {q : Pm} {v : F}
    (hq : ∀ a o, q a o → a ∈ adr x ∧ c.s.heap.get? a = some o) (hv : VF w (fun a o => c.p a o ∨ q a o) (.ref x.1) v) :
    Wd w g { c with p := fun a o => c.p a o ∨ q a o, H := c.H.set k (.frz v) } ∧ Go [] c { c with p := fun a o => c.p a o ∨ q a o, H := c.H.set k (.frz v) } := by
  have hL : ∀ a ∈ adr x, Lv c.φ c.H a := fun a => lv_self hx hO hf
  have hl : ∀ a, Lv c.φ (c.H.set k (.frz v)) a → Lv c.φ c.H a ∧ a ∉ adr x := fun a h => ⟨lv_set hx hO hf h, fun m => by
    rcases h with rfl | ⟨j, y, P, h1, h2, h3, h4⟩
    · exact W.no k x hx m
    · have := W.nd _ _ _ _ a h1 hx h4 m
      subst this
      rcases get_set h2 with ⟨_, rfl, _⟩ | ⟨ne, _⟩
      · cases h3
      · exact ne rfl⟩
  refine ⟨⟨fun a o h => h.elim (W.sub a o) fun h => (hq a o h).2, fun a o h => .inl (W.grd a o h), by simp [W.len], W.nd, W.ne, W.no, W.lt, fun a o h k => ?_, fun j y P h1 h2 => ?_, W.tab⟩,
    ⟨fun _ _ h => .inl h, fun a o h => h.elim .inl fun h => .inr (.inr (hL a (hq a o h).1)), List.prefix_refl _, fun _ _ h _ _ => h, fun a h => .inl (hl a h).1, fun _ h => h, rfl, fun _ h => .inl h⟩⟩
  · rcases k with k | k
    · exact W.np a o (hl a h).1 k
    · exact (hl a h).2 (hq a o k).1
  · rcases get_set h2 with ⟨rfl, rfl, _⟩ | ⟨ne, h2⟩
    · rw [hx] at h1; cases h1
      obtain ⟨a, dx⟩ := x
      exact .frz hv
    · exact (W.tr j y P h1 h2).mono (fun _ _ h => .inl h) (List.prefix_refl _) fun _ _ _ _ h => h
end
end Mine

end
noncomputable section
set_option Elab.async false
set_option maxRecDepth 100000
set_option linter.unusedVariables false
/-! frames, and what a run leaves behind -/
open PySem PySem.W PySem.Spec PySem.Calls PyProof.Rows
namespace Mine

noncomputable abbrev Ef : Value → Shared → Prop := fun _ _ => False
noncomputable def Rm (A : Around) (n : Nat) : Prop := A.depth + 10 * n < 990 ∧ A.units + 100 * n < 9800 ∧ A.handled = none
noncomputable def frm (env : Env) : List Addr := env.locals :: env.cells.map (·.2)
noncomputable def heldBy (g : Heap) : Pm := fun a o => g.get? a = some o

section
variable (w : World)
structure Fm (env : Env) (sc : Sc) (ρ : Rho) (c : Cf) : Prop where
  kind : env.scope.kind = .function
  glb : env.globals = mainGlobals
  blt : env.builtins = builtinsNs
  loc : ∀ x, sc.lookup x = some .local → env.kindOf x = some .local
  cel : ∀ x, sc.lookup x = some .cell → env.kindOf x = some .cell ∧ ∃ a, env.cells.lookup x = some a
  fre : ∀ x, sc.lookup x = some .free → env.kindOf x = some .free ∨ env.kindOf x = some .cell
  gli : ∀ x, sc.lookup x = some .globalImplicit → env.kindOf x = some .globalImplicit
  ns : ∃ m, c.s.heap.Ns env.locals m ∧ ∀ x d, ρ.lookup x = some d → sc.lookup x = some .local → ∃ v, m x = some v ∧ VD w c.p c.φ v d
  cl : ∀ x d, ρ.lookup x = some d → sc.lookup x = some .cell ∨ sc.lookup x = some .free → ∃ a v, env.cells.lookup x = some a ∧ c.s.heap.IsCell a (some v) ∧ VD w c.p c.φ v d
  ce : ∀ x a, (x, a) ∈ env.cells → (∃ ov, c.s.heap.IsCell a ov) ∧ a ≠ env.locals
  ap : env.cells.Pairwise fun x y => x.2 ≠ y.2
  nl : ∀ a, a ∈ frm env → ¬ Lv c.φ c.H a ∧ ∀ o, ¬ c.p a o

variable (g : Heap)
inductive Out (c : Cf) (v : Value) (d : D) (H' : Hp) (s' : Shared) : Prop
  | mk {p : Pm} {φ : Phi} : Wd w g ⟨p, φ, H', s'⟩ → Go [] c ⟨p, φ, H', s'⟩ → VD w p φ v d → Out c v d H' s'
inductive OutB (c : Cf) (b : Bool) (H' : Hp) (s' : Shared) : Bool → Prop
  | mk {p : Pm} {φ : Phi} : Wd w g ⟨p, φ, H', s'⟩ → Go [] c ⟨p, φ, H', s'⟩ → OutB c b H' s' b
/-- a state alone -/
inductive OutU (c : Cf) (H' : Hp) (s' : Shared) : Prop
  | mk {p : Pm} {φ : Phi} : Wd w g ⟨p, φ, H', s'⟩ → Go [] c ⟨p, φ, H', s'⟩ → OutU c H' s'
inductive FlR (p : Pm) (φ : Phi) : Flow → Fl → Prop
  | next : FlR p φ .next .next
  | brk : FlR p φ .brk .brk
  | cont : FlR p φ .cont .cont
  | ret {v : Value} {d : D} : VD w p φ v d → FlR p φ (.ret v) (.ret d)
inductive OutS (env : Env) (sc : Sc) (c : Cf) (f : Flow) (fl : Fl) (ρ' : Rho) (H' : Hp) (s' : Shared) : Prop
  | mk {p : Pm} {φ : Phi} : Wd w g ⟨p, φ, H', s'⟩ → Go (frm env) c ⟨p, φ, H', s'⟩ → FlR w p φ f fl → Fm w env sc ρ' ⟨p, φ, H', s'⟩ → OutS env sc c f fl ρ' H' s'
structure RS (n : Nat) (R : Rec) : Prop where
  ex : ∀ A env sc e ρ c d H', Rm A n → Wd w g c → Fm w env sc ρ c → R.ex sc e ρ c.H = some (d, H') → wpAny (model pw w) A (eval e env) (fun v s' => Out w g c v d H' s') Ef c.s
  ts : ∀ A env sc e ρ c b H', Rm A n → Wd w g c → Fm w env sc ρ c → R.ts sc e ρ c.H = some (b, H') → wpAny (model pw w) A (isTrue e env (eval e env)) (fun b' s' => OutB w g c b H' s' b') Ef c.s
  st : ∀ A env sc l ρ c fl ρ' H', Rm A n → Wd w g c → Fm w env sc ρ c → R.st sc l ρ c.H = some (fl, ρ', H') → wpAny (model pw w) A (execs l env) (fun f s' => OutS w g env sc c f fl ρ' H' s') Ef c.s

structure Gd (T : Tabs) (mg mb : Str → Option Value) : Prop where
  G : g.Ns mainGlobals mg
  B : g.Ns builtinsNs mb
  nolim : g.NoLimit
  gls : ∀ x f, T.gl x = some f → ∃ v, (mg x = some v ∨ (mg x = none ∧ mb x = some v)) ∧ VF w (heldBy g) v f
end

section
variable {w : World} {g : Heap} {c : Cf} {env : Env} {sc : Sc} {ρ : Rho} {T : Tabs} {mg mb : Str → Option Value} {A : Around}
theorem Go.at (G : Go [] c c') {a : Addr} (hl : ¬ Lv c.φ c.H a) {o : Obj} (h : c.s.heap.get? a = some o) : c'.s.heap.get? a = some o := G.kp a o h hl List.not_mem_nil
theorem Fm.lt (F : Fm w env sc ρ c) {a : Addr} (h : a ∈ frm env) : Al c.s a := by
  rcases List.mem_cons.mp h with rfl | h
  · obtain ⟨m, ⟨o, es, ep, q, _⟩, _⟩ := F.ns; exact ⟨_, q⟩
  · obtain ⟨⟨x, b⟩, h2, rfl⟩ := List.mem_map.mp h
    obtain ⟨⟨ov, o, q, _⟩, _⟩ := F.ce x b h2; exact ⟨_, q⟩
theorem lookup_mem {α : Type} {l : List (Str × α)} {x : Str} {a : α} (h : l.lookup x = some a) : (x, a) ∈ l := by
  induction l with
  | nil => cases h
  | cons y r ih =>
    obtain ⟨n, b⟩ := y
    rw [List.lookup_cons] at h
    split at h
    · rename_i q; cases h; rw [eq_of_beq q]; exact .head _
    · exact .tail _ (ih h)
theorem cells_frm {x : Str} {a : Addr} (h : (x, a) ∈ env.cells) : a ∈ frm env := .tail _ (List.mem_map.mpr ⟨_, h, rfl⟩)
theorem Fm.cell_at (F : Fm w env sc ρ c) {c' : Cf} (G : Go [] c c') {x : Str} {a : Addr} {ov : Option Value} (h : (x, a) ∈ env.cells) (i : c.s.heap.IsCell a ov) : c'.s.heap.IsCell a ov :=
  let ⟨o, e, r⟩ := i; ⟨o, G.at (F.nl a (cells_frm h)).1 e, r⟩
/-- what an expression does leaves the frame alone -/
theorem Fm.go (F : Fm w env sc ρ c) {c' : Cf} (G : Go [] c c') : Fm w env sc ρ c' where
  kind := F.kind
  glb := F.glb
  blt := F.blt
  loc := F.loc
  cel := F.cel
  fre := F.fre
  gli := F.gli
  ns := let ⟨m, n, h⟩ := F.ns; ⟨m, n.at' fun o e => G.at (F.nl _ (.head _)).1 e, fun x d e k => let ⟨v, a, b⟩ := h x d e k; ⟨v, a, b.mono G.ps G.fs⟩⟩
  cl x d e k := let ⟨a, v, h1, h2, h3⟩ := F.cl x d e k; ⟨a, v, h1, F.cell_at G (lookup_mem h1) h2, h3.mono G.ps G.fs⟩
  ce x a h := let ⟨⟨ov, i⟩, n⟩ := F.ce x a h; ⟨⟨ov, F.cell_at G h i⟩, n⟩
  ap := F.ap
  nl a h := ⟨fun l => (G.lv a l).elim (F.nl a h).1 fun z => z (F.lt h), fun o p => by
    rcases G.pn a o p with p | p | p
    · exact (F.nl a h).2 o p
    · exact absurd (F.lt h) p
    · exact (F.nl a h).1 p⟩
theorem Rm.down {n : Nat} (h : Rm A (n + 1)) : Rm A n := ⟨by have := h.1; omega, by have := h.2.1; omega, h.2.2⟩
theorem Rm.room {n : Nat} (h : Rm A n) : A.depth < recursionLimit := by have := h.1; show A.depth < 1000; omega
theorem Rm.units {n : Nat} (h : Rm A n) : A.units < cLine := by have := h.2.1; show A.units < 9900; omega
theorem Wd.old (W : Wd w g c) : ∀ a o, g.get? a = some o → c.s.heap.get? a = some o := fun a o h => W.sub a o (W.grd a o h)
theorem Wd.nolim (W : Wd w g c) (GD : Gd w g T mg mb) : c.s.heap.NoLimit := GD.nolim.keeps W.old
theorem Out.id (W : Wd w g c) {v : Value} {d : D} (h : VD w c.p c.φ v d) : Out w g c v d c.H c.s := ⟨W, Go.refl, h⟩
theorem Out.tok (W : Wd w g c) {v : Value} {d : D} (t : Tok) (h : VD w c.p c.φ v d) : Out w g c v d c.H { c.s with toks := t } :=
  ⟨(W.tok t).1, (W.tok t).2, h⟩
theorem Out.after {c' : Cf} {v : Value} {d : D} {H' : Hp} {s' : Shared} (G : Go [] c c') (h : Out w g c' v d H' s') : Out w g c v d H' s' :=
  let ⟨W, G', V⟩ := h; ⟨W, G.trans G', V⟩
theorem OutB.after {c' : Cf} {b b' : Bool} {H' : Hp} {s' : Shared} (G : Go [] c c') (h : OutB w g c' b H' s' b') : OutB w g c b H' s' b' :=
  let ⟨W, G'⟩ := h; ⟨W, G.trans G'⟩
theorem OutB.id (W : Wd w g c) {b : Bool} : OutB w g c b c.H c.s b := ⟨W, Go.refl⟩
theorem OutS.after {c' : Cf} {f : Flow} {fl : Fl} {ρ' : Rho} {H' : Hp} {s' : Shared} (G : Go (frm env) c c') (h : OutS w g env sc c' f fl ρ' H' s') : OutS w g env sc c f fl ρ' H' s' :=
  let ⟨W, G', r, F⟩ := h; ⟨W, G.trans G', r, F⟩
/-- a run's state, seen through its outcome -/
theorem wpOut {α : Type} {t : Sem α} {P Q : α → Shared → Prop} {s : Shared} (h : wpAny (model pw w) A t P Ef s) (k : ∀ v s', P v s' → Q v s') : wpAny (model pw w) A t Q Ef s := wpAny_mono h k fun _ _ e => e
theorem wpK {t : Sem Value} {d : D} {H' : Hp} {s : Shared} {Q : Value → Shared → Prop} (h : wpAny (model pw w) A t (fun v s' => Out w g c v d H' s') Ef s) (k : ∀ v p φ s', Wd w g ⟨p, φ, H', s'⟩ → Go [] c ⟨p, φ, H', s'⟩ → VD w p φ v d → Q v s') : wpAny (model pw w) A t Q Ef s :=
  wpOut h fun _ _ o => let ⟨W, G, V⟩ := o; k _ _ _ _ W G V
theorem wpB {t : Sem Bool} {b : Bool} {H' : Hp} {s : Shared} {Q : Bool → Shared → Prop} (h : wpAny (model pw w) A t (fun b' s' => OutB w g c b H' s' b') Ef s) (k : ∀ p φ s', Wd w g ⟨p, φ, H', s'⟩ → Go [] c ⟨p, φ, H', s'⟩ → Q b s') : wpAny (model pw w) A t Q Ef s :=
  wpOut h fun _ _ o => by cases o with | mk W G => exact k _ _ _ W G
theorem wpU {α : Type} {t : Sem α} {H' : Hp} {s : Shared} {Q : α → Shared → Prop} (h : wpAny (model pw w) A t (fun _ s' => OutU w g c H' s') Ef s) (k : ∀ a p φ s', Wd w g ⟨p, φ, H', s'⟩ → Go [] c ⟨p, φ, H', s'⟩ → Q a s') : wpAny (model pw w) A t Q Ef s :=
  wpOut h fun _ _ o => let ⟨W, G⟩ := o; k _ _ _ _ W G
theorem wpA {t : Sem Value} {c' : Cf} {d : D} {H' : Hp} {s : Shared} (G : Go [] c c') (h : wpAny (model pw w) A t (fun v s' => Out w g c' v d H' s') Ef s) : wpAny (model pw w) A t (fun v s' => Out w g c v d H' s') Ef s := wpOut h fun _ _ o => o.after G
theorem wpAB {t : Sem Bool} {c' : Cf} {b : Bool} {H' : Hp} {s : Shared} (G : Go [] c c') (h : wpAny (model pw w) A t (fun b' s' => OutB w g c' b H' s' b') Ef s) : wpAny (model pw w) A t (fun b' s' => OutB w g c b H' s' b') Ef s := wpOut h fun _ _ o => o.after G

theorem var_ok (GD : Gd w g T mg mb) (W : Wd w g c) (F : Fm w env sc ρ c) {x : Str} {d : D} (h : var T sc ρ x = some d) (h1 : (x == ("__debug__" : Str)) = false) (h2 : (x == ("__classdict__" : Str)) = false) {Q : Value → Shared → Prop} {E : Value → Shared → Prop}
    (hq : ∀ v, VD w c.p c.φ v d → Q v c.s) : wpAny (model pw w) A (loadName env x) Q E c.s := by
  refine b1 h fun k e h => ?_
  have cell : ρ.lookup x = some d → (sc.lookup x = some .cell ∨ sc.lookup x = some .free) → (env.kindOf x = some .cell ∨ env.kindOf x = some .free) → wpAny (model pw w) A (loadName env x) Q E c.s := by
    intro e2 hk ek
    obtain ⟨a, v, h3, h4, h5⟩ := F.cl x d e2 hk
    exact ek.elim (fun ek => wpAny_loadName_cell F.kind ek h3 h4 (hq v h5)) fun ek => wpAny_loadName_free F.kind ek h3 h4 (hq v h5) h2
  cases k with
  | «local» =>
    obtain ⟨m, n, hm⟩ := F.ns
    obtain ⟨v, h3, h4⟩ := hm x d h e
    exact wpAny_loadName_local F.kind (F.loc x e) n h3 (hq v h4)
  | cell => exact cell h (.inl e) (.inl (F.cel x e).1)
  | free => exact cell h (.inr e) (F.fre x e).symm
  | globalImplicit =>
    refine m1 (P := fun d => (∀ v, VD w c.p c.φ v d → Q v c.s) → wpAny (model pw w) A (loadName env x) Q E c.s) h (fun f hf hq => ?_) hq
    obtain ⟨v, hv, hV⟩ := GD.gls x f hf
    have hV' := hq v (.f (hV.mono W.grd))
    have Gs := GD.G.keeps W.old
    have Bs := GD.B.keeps W.old
    unfold loadName
    simp only [Env.blockKind, F.kind, F.gli x e, ScopeKind.isAnnotationScope, Bool.false_and, Bool.false_eq_true, if_false]
    exact hv.elim (fun hv => Calls.loadGlobal_global (env := env) (by rw [F.glb]; exact Gs) hv hV') fun hv => Calls.loadGlobal_builtin (env := env) (by rw [F.glb]; exact Gs) hv.1 (by rw [F.blt]; exact Bs) hv.2 hV'
  | _ => exact nn h
end
end Mine

end
noncomputable section
set_option Elab.async false
set_option maxRecDepth 100000
/-! looks at data, freezing -/
open PySem PySem.W PySem.Spec PySem.Calls PyProof.Rows
namespace Mine
/-! views, back -/
theorem fLst_eq {f : F} {l : List F} (h : fLst f = some l) : f = .lst l := by cases f with | lst x => cases h; rfl | _ => exact nn h
theorem fTup_eq {f : F} {l : List F} (h : fTup f = some l) : f = .tup l := by cases f with | tup x => cases h; rfl | _ => exact nn h
theorem fInt_eq {f : F} {n : Int} (h : fInt f = some n) : f = .int n := by cases f with | int x => cases h; rfl | _ => exact nn h
theorem fStr_eq {f : F} {x : Str} (h : fStr f = some x) : f = .str x := by cases f with | str x => cases h; rfl | _ => exact nn h
theorem fDct_eq {f : F} {l : List (Key × F)} (h : fDct f = some l) : f = .dct l := by cases f with | dct x => cases h; rfl | _ => exact nn h
theorem fIns_eq {f : F} {x : Addr × List (Str × F)} (h : fIns f = some x) : f = .ins x.1 x.2 := by cases f with | ins a b => cases h; rfl | _ => exact nn h
theorem fRng_eq {f : F} {x : Int × Int} (h : fRng f = some x) : f = .rng x.1 x.2 := by cases f with | rng a b => cases h; rfl | _ => exact nn h
theorem fGlb_eq {f : F} {v : Value} (h : fGlb f = some v) : f = .glob v := by cases f with | glob v => cases h; rfl | _ => exact nn h
theorem fBool_eq {f : F} {b : Bool} (h : fBool f = some b) : f = .bool b := by cases f with | bool v => cases h; rfl | _ => exact nn h
theorem fNone_eq {f : F} (h : fNone f = true) : f = .none := by cases f with | none => rfl | _ => cases h
theorem one_eq {α : Type} {l : List α} {a : α} (h : one l = some a) : l = [a] := by
  match l, h with
  | [_], h => cases h; rfl
theorem two_eq {α : Type} {l : List α} {a : α × α} (h : two l = some a) : l = [a.1, a.2] := by
  match l, h with
  | [_, _], h => cases h; rfl
section
variable {w : World} {g : Heap} {c : Cf} {v : Value} {d : D}
theorem dFp {p : Pm} {φ : Phi} {β : Type} {f : F → Option β} {b : β} (V : VD w p φ v d) (h : (unF d).bind f = some b) : ∃ x, VF w p v x ∧ f x = some b := b1 h fun x e h => ⟨x, by rw [unF_eq e] at V; exact V.uf, h⟩
theorem dInt_ok {p : Pm} {φ : Phi} {n : Int} (V : VD w p φ v d) (h : dInt d = some n) : ∃ t, v = .int n t :=
  let ⟨_, V, h⟩ := dFp V h; (show VFi w p v (.int n) from fInt_eq h ▸ V.inv)
theorem dGlb_ok {p : Pm} {φ : Phi} {u : Value} (V : VD w p φ v d) (h : dGlb d = some u) : v = u :=
  let ⟨_, V, h⟩ := dFp V h; (show VFi w p v (.glob u) from fGlb_eq h ▸ V.inv)
theorem dNone_ok {p : Pm} {φ : Phi} (V : VD w p φ v d) (h : dNone d = true) : v = .none := by
  cases d with
  | f x => rw [show x = .none from fNone_eq h] at V; exact V.uf.inv
  | _ => cases h

theorem own_tr (W : Wd w g c) {k : Nat} (h : VD w c.p c.φ v (.own k)) {O : Mine.O} (hO : c.H[k]? = some O) : ∃ x : Addr × Option Addr, v = .ref x.1 ∧ c.φ[k]? = some x ∧ Tr w c.p c.φ c.s.heap x O :=
  let ⟨x, e, h⟩ := h.inv; ⟨x, e, h, W.tr _ _ _ h hO⟩
/-- what stands in a live object -/
noncomputable def Tri (w : World) (p : Pm) (φ : Phi) (h : Heap) (x : Addr × Option Addr) : O → Prop
  | .lst ds => ∃ o vs, x.2 = none ∧ h.get? x.1 = some o ∧ isL o vs ∧ VDs w p φ vs ds
  | .dct es => ∃ o kvs, x.2 = none ∧ h.get? x.1 = some o ∧ (x.1 == sysModules) = false ∧ isDk w p o kvs ∧ VKDs w p φ kvs es
  | .ins c fs => ∃ dx o od es, x.2 = some dx ∧ h.get? x.1 = some o ∧ isI o c dx ∧ h.get? dx = some od ∧ isA od es ∧ VADs w p φ es fs
  | .frz v => VF w p (.ref x.1) v
theorem Tr.inv {p : Pm} {φ : Phi} {h : Heap} {x : Addr × Option Addr} {O : Mine.O} (t : Tr w p φ h x O) : Tri w p φ h x O := by
  cases t with
  | lst a b d => exact ⟨_, _, rfl, a, b, d⟩
  | dct a s b d => exact ⟨_, _, rfl, a, s, b, d⟩
  | ins a b d e f => exact ⟨_, _, _, _, rfl, a, b, d, e, f⟩
  | frz v => exact v
/-- a value that is data, by way of what stands under its name -/
theorem look {β : Type} {P : Value → β → Prop} {fo : O → Option β} (W : Wd w g c) {k : Nat} {b : β} (V : VD w c.p c.φ v (.own k)) (h : c.H[k]?.bind fo = some b) (hP : ∀ x O, Tri w c.p c.φ c.s.heap x O → fo O = some b → P (.ref x.1) b) : P v b :=
  b1 h fun O hO h => let ⟨x, e, _, t⟩ := own_tr W V hO; e ▸ hP x O t.inv h

noncomputable def LstAt (w : World) (c : Cf) (v : Value) (l : List D) : Prop := ∃ a o vs, v = .ref a ∧ c.s.heap.get? a = some o ∧ isL o vs ∧ VDs w c.p c.φ vs l
noncomputable def TupAt (w : World) (c : Cf) (v : Value) (l : List D) : Prop := ∃ a o vs, v = .ref a ∧ c.p a o ∧ isT o vs ∧ VDs w c.p c.φ vs l
noncomputable def DctAt (w : World) (c : Cf) (v : Value) (l : List (Key × D)) : Prop := ∃ a o kvs, v = .ref a ∧ c.s.heap.get? a = some o ∧ (a == sysModules) = false ∧ isDk w c.p o kvs ∧ VKDs w c.p c.φ kvs l
noncomputable def InsAt (w : World) (c : Cf) (v : Value) (i : Addr × List (Str × D)) : Prop := ∃ a o dx od es, v = .ref a ∧ c.s.heap.get? a = some o ∧ isI o i.1 dx ∧ c.s.heap.get? dx = some od ∧ isA od es ∧ VADs w c.p c.φ es i.2
theorem lst_F (W : Wd w g c) {f : F} {l : List D} (V : VF w c.p v f) (h : (fLst f).map dF = some l) : LstAt w c v l :=
  m1 (P := fun l => LstAt w c v l) h fun fs e => by
    rw [fLst_eq e] at V
    obtain ⟨a, o, vs, e, ha, il, r⟩ := V.inv
    exact ⟨a, o, vs, e, W.sub _ _ ha, il, r.toD⟩
theorem dct_F (W : Wd w g c) {f : F} {l : List (Key × D)} (V : VF w c.p v f) (h : ((fDct f).map fun l => l.map fun e => (e.1, D.f e.2)) = some l) : DctAt w c v l :=
  m1 (P := fun l => DctAt w c v l) h fun fs e => by
    rw [fDct_eq e] at V
    obtain ⟨a, o, vs, e, ha, hs, il, r⟩ := V.inv
    exact ⟨a, o, vs, e, W.sub _ _ ha, hs, il, r.toD⟩
theorem ins_F (W : Wd w g c) {f : F} {l : Addr × List (Str × D)} (V : VF w c.p v f) (h : ((fIns f).map fun x => (x.1, x.2.map fun e => (e.1, D.f e.2))) = some l) : InsAt w c v l :=
  m1 (P := fun l => InsAt w c v l) h fun fs e => by
    rw [fIns_eq e] at V
    obtain ⟨a, o, dx, od, es, e, ha, i, hd, ia, r⟩ := V.inv
    exact ⟨a, o, dx, od, es, e, W.sub _ _ ha, i, W.sub _ _ hd, ia, r.toD⟩
theorem asLst_ok (W : Wd w g c) {l : List D} (V : VD w c.p c.φ v d) (h : asLst d c.H = some l) : LstAt w c v l := by
  cases d with
  | f x => exact lst_F W V.uf h
  | own k =>
    exact look (P := fun v l => LstAt w c v l) W V h fun x O t h => by
      cases O with
      | lst ds => cases h; obtain ⟨o, vs, _, r⟩ := t; exact ⟨_, o, vs, rfl, r⟩
      | frz f => exact lst_F W t h
      | _ => exact nn h
  | tup _ => exact nn h
theorem asTup_ok {l : List D} (V : VD w c.p c.φ v d) (h : asTup d = some l) : TupAt w c v l := by
  cases d with
  | f x =>
    exact m1 (P := fun l => TupAt w c v l) h fun fs e => by
      have V := V.uf
      rw [fTup_eq e] at V
      obtain ⟨a, o, vs, e, ha, il, r⟩ := V.inv
      exact ⟨a, o, vs, e, ha, il, r.toD⟩
  | own k => exact nn h
  | tup _ => cases h; exact V.inv
theorem asDct_ok (W : Wd w g c) {l : List (Key × D)} (V : VD w c.p c.φ v d) (h : asDct d c.H = some l) : DctAt w c v l := by
  cases d with
  | f x => exact dct_F W V.uf h
  | own k =>
    exact look (P := fun v l => DctAt w c v l) W V h fun x O t h => by
      cases O with
      | dct ds => cases h; obtain ⟨o, vs, _, r⟩ := t; exact ⟨_, o, vs, rfl, r⟩
      | frz f => exact dct_F W t h
      | _ => exact nn h
  | tup _ => exact nn h
theorem asIns_ok (W : Wd w g c) {i : Addr × List (Str × D)} (V : VD w c.p c.φ v d) (h : asIns d c.H = some i) : InsAt w c v i := by
  cases d with
  | f x => exact ins_F W V.uf h
  | own k =>
    exact look (P := fun v l => InsAt w c v l) W V h fun x O t h => by
      cases O with
      | ins ds => cases h; obtain ⟨dx, o, od, es, _, a, b, r⟩ := t; exact ⟨_, o, dx, od, es, rfl, a, b, r⟩
      | frz f => exact ins_F W t h
      | _ => exact nn h
  | tup _ => exact nn h
/-- a frozen list, or a list of frozen data -/
noncomputable def FLAt (w : World) (c : Cf) (v : Value) (fs : List F) : Prop := ∃ a o vs, v = .ref a ∧ c.s.heap.get? a = some o ∧ isL o vs ∧ VFs w c.p vs fs
theorem frozen_or (W : Wd w g c) {f : F} (V : VD w c.p c.φ v d) (h : frozen d c.H = some f) : VF w c.p v f ∨ ∃ fs, f = .lst fs ∧ FLAt w c v fs := by
  cases d with
  | f x => cases h; exact .inl V.uf
  | own k =>
    exact look (P := fun v f => VF w c.p v f ∨ ∃ fs, f = .lst fs ∧ FLAt w c v fs) W V h fun x O t h => by
      cases O with
      | lst ds => obtain ⟨o, vs, _, a, b, r⟩ := t; exact m1 (P := fun f => VF w c.p (.ref x.1) f ∨ ∃ fs, f = .lst fs ∧ FLAt w c (.ref x.1) fs) h fun fs e => .inr ⟨fs, rfl, _, o, vs, rfl, a, b, r.ofF e⟩
      | frz f => cases h; exact .inl t
      | _ => exact nn h
  | tup _ => exact nn h
theorem frozen_ok (W : Wd w g c) {f : F} (V : VD w c.p c.φ v d) (h : frozen d c.H = some f) : VF w (heldBy c.s.heap) v f := by
  rcases frozen_or W V h with V | ⟨fs, rfl, a, o, vs, rfl, r1, r2, r3⟩
  · exact V.mono W.sub
  · exact .lst (p := heldBy c.s.heap) r1 r2 (r3.mono W.sub)
theorem frozenL_ok (W : Wd w g c) {fs : List F} (V : VD w c.p c.φ v d) (h : frozenL d c.H = some fs) : FLAt w c v fs :=
  b1 h fun f h e => by
    rw [fLst_eq e] at h
    rcases frozen_or W V h with V | ⟨_, e, r⟩
    · obtain ⟨a, o, vs, e, ha, r⟩ := V.inv; exact ⟨a, o, vs, e, W.sub _ _ ha, r⟩
    · cases e; exact r
theorem frozen_tup (W : Wd w g c) {fs : List F} (V : VD w c.p c.φ v d) (h : frozen d c.H = some (.tup fs)) : VF w c.p v (.tup fs) :=
  (frozen_or W V h).elim id fun ⟨_, e, _⟩ => by cases e

/-! ## freezing -/
/-- what freezing does: nothing in the heap -/
inductive Frz (w : World) (g : Heap) (c : Cf) (H' : Hp) (P : Pm → Prop) : Prop
  | mk {p : Pm} : Wd w g ⟨p, c.φ, H', c.s⟩ → Go [] c ⟨p, c.φ, H', c.s⟩ → P p → Frz w g c H' P
noncomputable def FzOk (w : World) (g : Heap) (fn : D → Hp → Option (F × Hp)) : Prop := ∀ (c : Cf) d f H' v, Wd w g c → VD w c.p c.φ v d → fn d c.H = some (f, H') → Frz w g c H' fun p => VF w p v f
/-- a part frozen, then the rest -/
theorem Frz.two {H1 H2 : Hp} {P Q R : Pm → Prop} (h : Frz w g c H1 P) (k : ∀ p, Wd w g ⟨p, c.φ, H1, c.s⟩ → Go [] c ⟨p, c.φ, H1, c.s⟩ → Frz w g ⟨p, c.φ, H1, c.s⟩ H2 Q) (hR : ∀ p q, P p → (∀ a o, p a o → q a o) → Q q → R q) : Frz w g c H2 R :=
  let ⟨W1, G1, p1⟩ := h; let ⟨W2, G2, q2⟩ := k _ W1 G1; ⟨W2, G1.trans G2, hR _ _ p1 G2.ps q2⟩
theorem fzs_ok {fn : D → Hp → Option (F × Hp)} (hf : FzOk w g fn) (ds : List D) :
    ∀ (c : Cf) (fs : List F) (H' : Hp) (vs : List Value), Wd w g c → VDs w c.p c.φ vs ds → fzs fn ds c.H = some (fs, H') → Frz w g c H' fun p => VFs w p vs fs := by
  induction ds with
  | nil => intro c fs H' vs W V h; cases h; rw [show vs = [] from V.inv]; exact ⟨W, Go.refl, .nil⟩
  | cons d r ih =>
    intro c fs H' vs W V h
    obtain ⟨v, us, rfl, V1, V2⟩ := V.inv
    refine bE h fun f H1 h1 h => m1 (P := fun y => ∀ fs H', (fs, H') = y → Frz w g c H' fun p => VFs w p (v :: us) fs) h (fun x h2 fs H' e => ?_) fs H' rfl
    cases e
    exact (hf c d f H1 v W V1 h1).two (fun p W1 G1 => ih _ _ _ us W1 (V2.mono G1.ps G1.fs) h2) fun p q a m b => .cons (a.mono m) b
theorem fzks_ok {fn : D → Hp → Option (F × Hp)} (hf : FzOk w g fn) (ds : List (Key × D)) :
    ∀ (c : Cf) (fs : List (Key × F)) (H' : Hp) (vs : List (Key × Value)), Wd w g c → VKDs w c.p c.φ vs ds → fzks fn ds c.H = some (fs, H') → Frz w g c H' fun p => VKs w p vs fs := by
  induction ds with
  | nil => intro c fs H' vs W V h; cases h; cases V; exact ⟨W, Go.refl, .nil⟩
  | cons d r ih =>
    intro c fs H' vs W V h
    cases V with
    | @cons k v d us _ V1 V2 =>
      refine bE h fun f H1 h1 h => m1 (P := fun y => ∀ fs H', (fs, H') = y → Frz w g c H' fun p => VKs w p ((k, v) :: us) fs) h (fun x h2 fs H' e => ?_) fs H' rfl
      cases e
      exact (hf c d f H1 v W V1 h1).two (fun p W1 G1 => ih _ _ _ us W1 (V2.mono G1.ps G1.fs) h2) fun p q a m b => .cons (a.mono m) b
theorem fzas_ok {fn : D → Hp → Option (F × Hp)} (hf : FzOk w g fn) (ds : List (Str × D)) :
    ∀ (c : Cf) (fs : List (Str × F)) (H' : Hp) (vs : List DictEntry), Wd w g c → VADs w c.p c.φ vs ds → fzks fn ds c.H = some (fs, H') → Frz w g c H' fun p => VAs w p vs fs := by
  induction ds with
  | nil => intro c fs H' vs W V h; cases h; cases V; exact ⟨W, Go.refl, .nil⟩
  | cons d r ih =>
    intro c fs H' vs W V h
    cases V with
    | @cons x t n v d us _ V1 V2 =>
      refine bE h fun f H1 h1 h => m1 (P := fun y => ∀ fs H', (fs, H') = y → Frz w g c H' fun p => VAs w p (⟨n, .str x t, v⟩ :: us) fs) h (fun x h2 fs H' e => ?_) fs H' rfl
      cases e
      exact (hf c d f H1 v W V1 h1).two (fun p W1 G1 => ih _ _ _ us W1 (V2.mono G1.ps G1.fs) h2) fun p q a m b => .cons (a.mono m) b
theorem fzPut_ok {p : Pm} {H1 : Hp} (W1 : Wd w g ⟨p, c.φ, H1, c.s⟩) (G1 : Go [] c ⟨p, c.φ, H1, c.s⟩) {k : Nat} {x : Addr × Option Addr} {u f : F} {H' : Hp} (hx : c.φ[k]? = some x) (h : fzPut k u H1 = some (f, H')) {q : Pm}
    (hq : ∀ a o, q a o → a ∈ adr x ∧ c.s.heap.get? a = some o) (hv : VF w (fun a o => p a o ∨ q a o) (.ref x.1) u) :
    Frz w g c H' fun p => VF w p (.ref x.1) f :=
  b1 h fun O hO h => i0 h fun hf h => by
    cases h
    obtain ⟨W', G'⟩ := W1.freeze hx hO (by simpa using hf) hq hv
    exact ⟨W', G1.trans G', hv⟩
theorem fzO_ok {fn : D → Hp → Option (F × Hp)} (hf : FzOk w g fn) (W : Wd w g c) {k : Nat} {x : Addr × Option Addr} (hx : c.φ[k]? = some x) (O : O) {f : F} {H' : Hp} (t : Tri w c.p c.φ c.s.heap x O) (h : fzO fn k c.H O = some (f, H')) : Frz w g c H' fun p => VF w p (.ref x.1) f := by
  cases O with
  | frz v => cases h; exact ⟨W, Go.refl, t⟩
  | lst ds =>
    obtain ⟨o, vs, _, a, b, r⟩ := t
    refine bE h fun fs H1 h1 h => ?_
    obtain ⟨W1, G1, V1⟩ := fzs_ok hf ds c fs H1 vs W r h1
    exact fzPut_ok W1 G1 hx h (q := fun y o' => y = x.1 ∧ o' = o) (fun y o' e => ⟨e.1 ▸ .head _, by rw [e.1, e.2]; exact a⟩) (.lst (.inr ⟨rfl, rfl⟩) b (V1.mono fun _ _ h => .inl h))
  | dct ds =>
    obtain ⟨o, vs, _, a, se, b, r⟩ := t
    refine bE h fun fs H1 h1 h => ?_
    obtain ⟨W1, G1, V1⟩ := fzks_ok hf ds c fs H1 vs W r h1
    exact fzPut_ok W1 G1 hx h (q := fun y o' => y = x.1 ∧ o' = o) (fun y o' e => ⟨e.1 ▸ .head _, by rw [e.1, e.2]; exact a⟩) (.dct (.inr ⟨rfl, rfl⟩) se (b.mono fun _ _ h => .inl (G1.ps _ _ h)) (VKs.rel V1 fun _ _ h => .inl h))
  | ins C ds =>
    obtain ⟨dx, o, od, es, e2, a, b, d, e', r⟩ := t
    refine bE h fun fs H1 h1 h => ?_
    obtain ⟨W1, G1, V1⟩ := fzas_ok hf ds c fs H1 es W r h1
    exact fzPut_ok W1 G1 hx h (q := fun y o' => (y = x.1 ∧ o' = o) ∨ (y = dx ∧ o' = od))
      (fun y o' e => e.elim (fun e => ⟨e.1 ▸ .head _, by rw [e.1, e.2]; exact a⟩) fun e => ⟨by rw [e.1]; unfold adr; rw [e2]; exact .tail _ (.head _), by rw [e.1, e.2]; exact d⟩) (.ins (.inr (.inl ⟨rfl, rfl⟩)) b (.inr (.inr ⟨rfl, rfl⟩)) e' (VAs.rel V1 fun _ _ h => .inl h))
theorem fz_ok (n : Nat) : FzOk w g (fz n) := by
  induction n with
  | zero =>
    intro c d f H' v W V h
    refine m1 (P := fun y => ∀ f H', (f, H') = y → Frz w g c H' fun p => VF w p v f) h (fun x h1 f H' e => ?_) f H' rfl
    cases e
    rw [unF_eq h1] at V
    exact ⟨W, Go.refl, V.uf⟩
  | succ n ih =>
    intro c d f H' v W V h
    cases d with
    | f x => cases h; exact ⟨W, Go.refl, V.uf⟩
    | tup ds =>
      obtain ⟨a, o, vs, rfl, ha, it, r⟩ := V.inv
      refine m1 (P := fun y => ∀ f H', (f, H') = y → Frz w g c H' fun p => VF w p (.ref a) f) h (fun x h1 f H' e => ?_) f H' rfl
      cases e
      obtain ⟨W1, G1, V1⟩ := fzs_ok ih ds c _ _ vs W r h1
      exact ⟨W1, G1, .tup (G1.ps _ _ ha) it V1⟩
    | own k =>
      refine b1 h fun O hO h => ?_
      obtain ⟨x, rfl, hx, t⟩ := own_tr W V hO
      exact fzO_ok ih W hx O t.inv h
theorem fzl_ok {n : Nat} {ds : List D} {fs : List F} {H' : Hp} {vs : List Value} (W : Wd w g c) (V : VDs w c.p c.φ vs ds) (h : fzs (fz n) ds c.H = some (fs, H')) : Frz w g c H' fun p => VFs w p vs fs :=
  fzs_ok (fz_ok n) ds c fs H' vs W V h
end
end Mine

end
noncomputable section
set_option Elab.async false
set_option maxRecDepth 100000
/-! the operators -/
open PySem PySem.W PySem.Spec PySem.Calls PyProof.Rows
namespace Mine
section
variable {w : World} {g : Heap} {c : Cf} {A : Around}
theorem isL.isList {h : Heap} {a : Addr} {o : Obj} {vs : List Value} (e : h.get? a = some o) (l : isL o vs) : h.IsList a vs.toArray := by
  obtain ⟨n, rfl⟩ := l; exact ⟨_, e, rfl, n, rfl⟩
theorem isT.isTup {h : Heap} {a : Addr} {o : Obj} {vs : List Value} (e : h.get? a = some o) (l : isT o vs) : IsTup h a vs.toArray := ⟨o, e, l.1, l.2⟩
theorem isL.new {vs : List Value} : isL { cls := .type "list", data := .seq vs.toArray } vs := ⟨0, rfl⟩
theorem isT.new {vs : List Value} : isT { cls := .type "tuple", data := .seq vs.toArray } vs := ⟨rfl, 0, rfl⟩
/-- a heap that grew, a new object in it that stays as it is -/
theorem Out.newF (W : Wd w g c) {s' : Shared} {a : Addr} {o : Obj} {f : F} (hk : ∀ a o, c.s.heap.get? a = some o → s'.heap.get? a = some o) (he : s' = { c.s with heap := s'.heap, toks := s'.toks })
    (ha : s'.heap.get? a = some o) (hf : ¬ Al c.s a) (hv : ∀ p, (∀ a x, c.p a x → p a x) → p a o → VF w p (.ref a) f) : Out w g c (.ref a) (.f f) c.H s' :=
  let ⟨W', G'⟩ := W.grown hk he ha hf
  ⟨W', G', .f (hv _ addP_l addP_r)⟩
/-- a new object that stays as it is -/
theorem Out.pushF (W : Wd w g c) {o : Obj} {f : F} {k : Tok} (ho : o.isFreed = false) (hv : ∀ p, (∀ a x, c.p a x → p a x) → p c.s.heap.objs.size o → VF w p (.ref c.s.heap.objs.size) f) :
    Out w g c (.ref c.s.heap.objs.size) (.f f) c.H { c.s with heap := c.s.heap.push o, toks := k } :=
  Out.newF W (s' := { c.s with heap := c.s.heap.push o, toks := k }) (fun _ _ h => Heap.get?_push_of_some _ h) rfl (Heap.get?_push_size _ ho) (noAl _) hv
theorem Out.pushL (W : Wd w g c) {vs : List Value} {fs : List F} {k : Tok} (V : VFs w c.p vs fs) : Out w g c (.ref c.s.heap.objs.size) (.f (.lst fs)) c.H { c.s with heap := c.s.heap.push { cls := .type "list", data := .seq vs.toArray }, toks := k } :=
  Out.pushF W rfl fun _ hp ho => .lst ho isL.new (V.mono hp)
theorem Out.pushT (W : Wd w g c) {vs : List Value} {fs : List F} {k : Tok} (V : VFs w c.p vs fs) : Out w g c (.ref c.s.heap.objs.size) (.f (.tup fs)) c.H { c.s with heap := c.s.heap.push { cls := .type "tuple", data := .seq vs.toArray }, toks := k } :=
  Out.pushF W rfl fun _ hp ho => .tup ho isT.new (V.mono hp)
/-- a new list of the run's own -/
theorem Out.pushOwn (W : Wd w g c) {vs : List Value} {ds : List D} {k : Tok} (V : VDs w c.p c.φ vs ds) :
    Out w g c (.ref c.s.heap.objs.size) (.own c.H.length) (c.H ++ [.lst ds]) { c.s with heap := c.s.heap.push { cls := .type "list", data := .seq vs.toArray }, toks := k } :=
  let ⟨W2, G2⟩ := W.own (s' := { c.s with heap := c.s.heap.push { cls := .type "list", data := .seq vs.toArray }, toks := k }) (x := (c.s.heap.objs.size, none)) (O := .lst ds) (fun _ _ h => Heap.get?_push_of_some _ h)
    rfl (fun a m => List.mem_singleton.mp m ▸ noAl _)
    (fun a m => List.mem_singleton.mp m ▸ ⟨_, Heap.get?_push_size _ rfl⟩) (fun dx e => nn e)
    (.lst (Heap.get?_push_size _ rfl) isL.new (V.mono (fun _ _ h => h) (List.prefix_append _ _)))
  ⟨W2, G2, VD.own (x := (c.s.heap.objs.size, none)) (by rw [← W.len]; exact snoc_get)⟩

theorem div_small {a b : Int} (h0 : 0 < b) (h : b < 4611686018427387904) : Builtin.divisionGoesByPylong a b = false := by
  unfold Builtin.divisionGoesByPylong
  have h1 : (b == 0) = false := by simp; omega
  have h2 : b.natAbs.log2 < 62 := (Nat.log2_lt (by omega)).mpr (by omega)
  simp only [h1, Bool.false_eq_true, if_false]
  have : ¬ (b.natAbs.log2 / 30 + 1 > 300) := by omega
  simp [this]
/-- two ints, and what is made of them -/
theorem int2_ok {f : Int → Int → Option Int} {a b d : D} {va vb : Value} {m : Sem Value} {P : Value → Value → Sem Value} (hm : m = P va vb) {s : Shared} (Va : VD w c.p c.φ va a) (Vb : VD w c.p c.φ vb b) (h : int2 f a b = some d)
    (k : ∀ x y z t u, f x y = some z → wpAny (model pw w) A (P (.int x t) (.int y u)) (fun v s' => Out w g c v (.f (.int z)) c.H s') Ef s) : wpAny (model pw w) A m (fun v s' => Out w g c v d c.H s') Ef s :=
  b1 h fun x hx h => b1 h fun y hy h => m1 (P := fun d => wpAny (model pw w) A m (fun v s' => Out w g c v d c.H s') Ef s) h fun z hz => by
    obtain ⟨t, rfl⟩ := dInt_ok Va hx; obtain ⟨u, rfl⟩ := dInt_ok Vb hy
    exact hm ▸ k x y z t u hz
theorem addT_ok (W : Wd w g c) {va vb : Value} {x y : List F} {d : D} (Va : VF w c.p va (.tup x)) (Vb : VF w c.p vb (.tup y)) (h : addTup x y = some d) : wpAny (model pw w) A (binaryOp .Add va vb) (fun v s' => Out w g c v d c.H s') Ef c.s :=
  i0 h fun q h => by
    have hlim : lim = 100000 := rfl
    cases h
    obtain ⟨aa, ao, avs, rfl, a1, a2, a3⟩ := Va.inv
    obtain ⟨ba, bo, bvs, rfl, b1, b2, b3⟩ := Vb.inv
    obtain ⟨c1, n1, d1⟩ := id a2
    obtain ⟨c2, n2, d2⟩ := id b2
    have g1 := W.sub _ _ a1
    have g2 := W.sub _ _ b1
    obtain ⟨_, dd, _, sl⟩ := ao
    obtain ⟨_, dd2, _, sl2⟩ := bo
    simp only at c1 d1 c2 d2
    subst c1 d1 c2 d2
    simp only [Bool.or_eq_true, not_or, Bool.not_eq_true, Bool.not_eq_false', decide_eq_true_eq, List.isEmpty_eq_false_iff] at q
    have l1 := a3.length
    have l2 := b3.length
    have e1 : avs ≠ [] := by intro e; rw [e] at l1; exact q.1.1 (List.length_eq_zero_iff.mp l1.symm)
    have e2 : bvs ≠ [] := by intro e; rw [e] at l2; exact q.1.2 (List.length_eq_zero_iff.mp l2.symm)
    refine concat_meets ⟨_, g1, rfl⟩ ⟨_, g2, rfl⟩ noFill_tuple_add seq_tuple_add PySem.F.slot_tuple_add PySem.F.entry_tuple_add (PySem.F.args_tuple_add_2 _ _)
      (tuple_addW2 _ _ avs.toArray bvs.toArray n1 n2 dd dd2 sl sl2 (by simpa using e1) (by simpa using e2) (by rw [List.size_toArray, List.size_toArray, sizeLine_eq]; have := q.2; omega)) ⟨g1, g2, ?_⟩
    rw [show avs.toArray ++ bvs.toArray = (avs ++ bvs).toArray by simp]
    exact Out.pushT W (VFs.append b3 a3)
theorem binV_ok (W : Wd w g c) {op : Operator} {a b d : D} {va vb : Value} (Va : VD w c.p c.φ va a) (Vb : VD w c.p c.φ vb b) (h : binV op a b = some d) :
    wpAny (model pw w) A (binaryOp op va vb) (fun v s' => Out w g c v d c.H s') Ef c.s := by
  cases op with
  | Add =>
    unfold binV at h
    cases q : (unF a).bind fTup with
    | some x =>
      rw [q] at h
      refine b1 h fun y q2 h => ?_
      obtain ⟨f1, V1, e1⟩ := dFp Va q
      obtain ⟨f2, V2, e2⟩ := dFp Vb q2
      rw [fTup_eq e1] at V1
      rw [fTup_eq e2] at V2
      exact addT_ok W V1 V2 h
    | none =>
      rw [q] at h
      exact int2_ok (P := binaryOp .Add) rfl Va Vb h fun x y z t u e => by cases e; exact wpAny_add_int (Out.tok W _ (.f (.int _ _)))
  | Sub => exact int2_ok (P := binaryOp .Sub) rfl Va Vb h fun x y z t u e => by cases e; exact sub_int (Out.tok W _ (.f (.int _ _)))
  | Mult =>
    refine int2_ok (P := binaryOp .Mult) rfl Va Vb h fun x y z t u e => ?_
    refine i2 e (fun q e => ?_) fun _ e => i1 e fun q e => ?_
    · cases e; exact mul_int (Out.tok W _ (.f (.int _ _))) (IntMulOk.of_right (intBits_le_64 (by omega) (by omega)))
    · cases e; exact mul_int (Out.tok W _ (.f (.int _ _))) (IntMulOk.of_left (intBits_le_64 (by omega) (by omega)))
  | FloorDiv =>
    refine int2_ok (P := binaryOp .FloorDiv) rfl Va Vb h fun x y z t u e => i0 e fun q e => i1 e fun q2 e => ?_
    cases e; exact floordiv_int (by omega) (Out.tok W _ (.f (.int _ _))) (.inl (div_small (by omega) (by omega)))
  | Mod =>
    refine int2_ok (P := binaryOp .Mod) rfl Va Vb h fun x y z t u e => i0 e fun q e => ?_
    cases e; exact mod_int (by omega) (Out.tok W _ (.f (.int _ _)))
  | _ => exact nn h
theorem rep_all {p : Pm} {v : Value} {x : F} (h : VF w p v x) (m : Nat) : VFs w p (List.replicate m v) (List.replicate m x) := by
  induction m with
  | zero => exact .nil
  | succ m ih => exact .cons h ih
theorem rep_arr (v0 : Value) (m : Nat) : ∀ (acc : List Value), List.foldl (fun x1 x2 => x1 ++ x2) acc.toArray (List.replicate m [v0].toArray) = (acc ++ List.replicate m v0).toArray := by
  induction m with
  | zero => intro acc; simp
  | succ m ih => intro acc; rw [List.replicate_succ, List.foldl_cons, show acc.toArray ++ [v0].toArray = (acc ++ [v0]).toArray by simp, ih, List.replicate_succ]; simp
theorem binL_ok (W : Wd w g c) {op : Operator} {a b : D} {fs : List F} {va vb : Value} (Va : VD w c.p c.φ va a) (Vb : VD w c.p c.φ vb b) (h : binL op a b c.H = some fs) {Q : Value → Shared → Prop}
    (hq : ∀ vs, VFs w c.p vs fs → Q (.ref c.s.heap.objs.size) { c.s with heap := c.s.heap.push { cls := .type "list", data := .seq vs.toArray } }) : wpAny (model pw w) A (binaryOp op va vb) Q Ef c.s := by
  have hlim : lim = 100000 := rfl
  cases op with
  | Add =>
    refine b1 h fun p hp h => b1 h fun q hq' h => i1 h fun z h => ?_
    cases h
    obtain ⟨a1, o1, v1, rfl, g1, ⟨n1, rfl⟩, f1⟩ := frozenL_ok W Va hp
    obtain ⟨a2, o2, v2, rfl, g2, ⟨n2, rfl⟩, f2⟩ := frozenL_ok W Vb hq'
    have l1 := f1.length
    have l2 := f2.length
    refine P.add_list g1 g2 ?_ (by rw [List.size_toArray, List.size_toArray, sizeLine_eq]; omega)
    rw [show v1.toArray ++ v2.toArray = (v1 ++ v2).toArray by simp]
    exact hq _ (VFs.append f2 f1)
  | Mult =>
    refine b1 h fun l q h => b1 h fun x q1 h => b1 h fun n q2 h => i1 h fun z h => ?_
    cases h
    simp only [Bool.and_eq_true, decide_eq_true_eq] at z
    obtain ⟨f1, V1, e1⟩ := dFp Va q
    rw [fLst_eq e1, one_eq q1] at V1
    obtain ⟨aa, ao, avs, rfl, a1, ⟨k, rfl⟩, a3⟩ := V1.inv
    obtain ⟨v0, _, rfl, f1, f2⟩ := a3.inv
    obtain rfl : _ = [] := f2.inv
    obtain ⟨u, rfl⟩ := dInt_ok Vb q2
    have g1 := W.sub _ _ a1
    have hn : n.toNat ≤ 100000 := by omega
    refine wpAny_binaryOp_repeat_ref (T := "list") (U := "int") (by decide) ⟨_, g1, rfl⟩ (fun s' => typeIs_int s' n u) noFill_list_mul PySem.F.fills_int_mul PySem.F.slot_int_rmul repeat_list PySem.F.slot_int_index.lookup
      (call_meets PySem.F.slot_int_rmul (typeIs_int c.s n u) PySem.F.entry_int_rmul (PySem.F.args_int_rmul_2 _ _) (int___rmul___int_list n u aa [v0].toArray k)
        ⟨g1, rfl, ⟨_, g1, rfl⟩, call_meets PySem.F.slot_list_mul ⟨_, g1, rfl⟩ PySem.F.entry_list_mul (PySem.F.args_list_mul_2 _ _)
          (AutoListH.list___mul___list_int_3 aa [v0].toArray k n u (by simp [Builtin.List.listFitsIndex]; omega) (by simp; omega) (by simp [Builtin.List.listTooLong, sizeLine]; omega)) ⟨g1, ?_⟩⟩)
    have e : List.foldl (fun x1 x2 => x1 ++ x2) #[] (List.replicate (if ([v0].toArray).isEmpty = true then 0 else n.toNat) [v0].toArray) = (List.replicate n.toNat v0).toArray := by
      simpa using rep_arr v0 n.toNat []
    rw [e]
    exact hq _ (rep_all f1 _)
  | _ => exact nn h
theorem bin_ok (W : Wd w g c) {op : Operator} {a b d : D} {va vb : Value} (Va : VD w c.p c.φ va a) (Vb : VD w c.p c.φ vb b) (h : bin op a b c.H = some d) :
    wpAny (model pw w) A (binaryOp op va vb) (fun v s' => Out w g c v d c.H s') Ef c.s := by
  unfold bin at h
  cases q : binV op a b with
  | some d' => rw [q] at h; cases h; exact binV_ok W Va Vb q
  | none =>
    rw [q] at h
    exact m1 (P := fun d => wpAny (model pw w) A (binaryOp op va vb) (fun v s' => Out w g c v d c.H s') Ef c.s) h fun l h => binL_ok W Va Vb h fun vs V => Out.pushL W V
theorem aug_ok (W : Wd w g c) {op : Operator} {a b d : D} {va vb : Value} (Va : VD w c.p c.φ va a) (Vb : VD w c.p c.φ vb b) (h : augI op a b = some d) :
    wpAny (model pw w) A (inplaceOp op va vb) (fun v s' => Out w g c v d c.H s') Ef c.s := by
  cases op with
  | Add => exact int2_ok (P := inplaceOp .Add) rfl Va Vb h fun x y z t u e => by cases e; exact wpAny_iadd_int (Out.tok W _ (.f (.int _ _)))
  | Sub => exact int2_ok (P := inplaceOp .Sub) rfl Va Vb h fun x y z t u e => by cases e; exact PyProof.Rows.isub_int (Out.tok W _ (.f (.int _ _)))
  | _ => exact nn h
end
end Mine

end
noncomputable section
set_option Elab.async false
set_option maxRecDepth 100000
/-! comparisons -/
open PySem PySem.W PySem.Spec PySem.Calls PyProof.Rows
open PySem.SeqAt
open PySem.AutoSeq1 (wpAny_loadPart')
open PySem.MeetsSeq PySem.MeetsSeq2 PySem.MeetsSeq3
namespace Mine
section
variable {w : World} {g : Heap} {c : Cf} {A : Around}
theorem isT.inj {o : Obj} {vs ws : List Value} (h : isT o vs) (k : isT o ws) : vs = ws := by
  obtain ⟨_, n, e⟩ := h
  obtain ⟨_, m, e'⟩ := k
  rw [e] at e'
  injection e' with a b
  exact congrArg Array.toList a
theorem isL.inj {o : Obj} {vs ws : List Value} (h : isL o vs) (k : isL o ws) : vs = ws := by
  obtain ⟨n, e⟩ := h
  obtain ⟨m, e'⟩ := k
  rw [e] at e'
  injection e' with a b a b
  injection a with a b
  exact congrArg Array.toList a
/-- one value as data twice -/
theorem eq0_same {p : Pm} {v : Value} {x y : F} {b : Bool} (V : VF w p v x) (U : VF w p v y) (e : eq0 x y = some b) : b = true := by
  have V := V.inv
  cases x with
  | none =>
    obtain rfl : v = .none := V
    cases y with
    | none => cases e; rfl
    | str s => obtain ⟨t, e⟩ := U.inv; cases e
    | tup s => obtain ⟨a, o, vs, e, _⟩ := U.inv; cases e
    | _ => exact nn e
  | bool a =>
    obtain rfl : v = .bool a := V
    exact m1 (P := fun b => b = true) e fun b' h => by
      rw [fBool_eq h] at U
      have U : Value.bool a = .bool b' := U.inv
      cases U; exact beq_self_eq_true _
  | int a =>
    obtain ⟨t, rfl⟩ := V
    exact m1 (P := fun b => b = true) e fun b' h => by
      rw [fInt_eq h] at U
      obtain ⟨t, e⟩ := U.inv
      cases e; exact beq_self_eq_true _
  | str a =>
    obtain ⟨t, rfl⟩ := V
    refine i2 e (fun h _ => ?_) fun _ e => m1 (P := fun b => b = true) e fun b' h => ?_
    · rw [fNone_eq h] at U; cases (show _ = Value.none from U.inv)
    · rw [fStr_eq h] at U
      obtain ⟨t, e⟩ := U.inv
      cases e; exact beq_self_eq_true _
  | tup a =>
    obtain ⟨a, o, vs, rfl, _⟩ := V
    refine i1 e fun h _ => ?_
    rw [fNone_eq h] at U; cases (show _ = Value.none from U.inv)
  | _ => exact nn e
noncomputable def SameOk (w : World) (p : Pm) (gn : F → F → Option Bool) : Prop := ∀ v x y b, VF w p v x → VF w p v y → gn x y = some b → b = true
theorem eqs_same {p : Pm} {gn : F → F → Option Bool} (hg : SameOk w p gn) (a : List F) : ∀ {vs : List Value} {b : List F} {l : List Bool}, VFs w p vs a → VFs w p vs b → eqs gn a b = some l → l.all id = true := by
  induction a with
  | nil => intro vs b l V U e; cases b <;> (cases e; rfl)
  | cons x a ih =>
    intro vs b l V U e
    cases b with
    | nil => cases e; rfl
    | cons y b =>
      obtain ⟨v, r, rfl, h1, h2⟩ := V.inv
      obtain ⟨_, _, e', k1, k2⟩ := U.inv
      cases e'
      exact b1 e fun r e1 e => m1 (P := fun l => l.all id = true) e fun l e2 => by rw [List.all_cons, ih h2 k2 e2, Bool.and_true]; exact hg _ _ _ _ h1 k1 e1
theorem eqN_same {h : Heap} (n : Nat) : SameOk w (heldBy h) (eqN n) := by
  induction n with
  | zero => exact fun v x y b V U e => eq0_same V U e
  | succ n ih =>
    intro v x y b V U e
    cases x with
    | tup a =>
      obtain ⟨aa, o, vs, rfl, a1, a2, a3⟩ := V.inv
      refine i2 e (fun h _ => ?_) fun _ e => b1 e fun l h e => i1 e fun _ e => m1 (P := fun b => b = true) e fun l e => ?_
      · rw [fNone_eq h] at U; cases (show _ = Value.none from U.inv)
      · rw [fTup_eq h] at U
        obtain ⟨_, o2, ws, e', b1, b2, b3⟩ := U.inv
        cases e'
        cases Option.some.inj (a1.symm.trans b1)
        cases a2.inj b2
        exact eqs_same ih a a3 b3 e
    | lst a =>
      obtain ⟨aa, o, vs, rfl, a1, a2, a3⟩ := V.inv
      refine b1 e fun l h e => ?_
      rw [fLst_eq h] at U
      obtain ⟨_, o2, ws, e', b1, b2, b3⟩ := U.inv
      cases e'
      cases Option.some.inj (a1.symm.trans b1)
      cases a2.inj b2
      rw [if_pos (a3.length.symm.trans b3.length)] at e
      exact m1 (P := fun b => b = true) e fun l e => eqs_same ih a a3 b3 e
    | _ => exact eq0_same V U e

noncomputable def EqOk (A : Around) (s : Shared) (va vb : Value) (b : Bool) : Prop := RcAt A s va vb b ∧ EqAt A s va vb b ∧ RcNeAt A s va vb (!b)
noncomputable def EqFor (w : World) (A : Around) (s : Shared) (gn : F → F → Option Bool) : Prop := ∀ va vb x y b, VF w (heldBy s.heap) va x → VF w (heldBy s.heap) vb y → gn x y = some b → EqOk A s va vb b
theorem eqs_get {s : Shared} {gn : F → F → Option Bool} (hg : EqFor w A s gn) (a : List F) :
    ∀ {vs ws : List Value} {b : List F} {l : List Bool}, VFs w (heldBy s.heap) vs a → VFs w (heldBy s.heap) ws b → eqs gn a b = some l → vs.length = ws.length → l.length = vs.length ∧ ∀ j (h1 : j < vs.length) (h2 : j < ws.length), EqOk A s vs[j] ws[j] ((l[j]?).getD false) := by
  induction a with
  | nil =>
    intro vs ws b l V U e q
    obtain rfl : vs = [] := V.inv
    refine ⟨?_, fun j h => absurd h (Nat.not_lt_zero _)⟩
    cases b <;> (cases e; rfl)
  | cons x a ih =>
    intro vs ws b l V U e q
    obtain ⟨v, r, rfl, h1, h2⟩ := V.inv
    cases b with
    | nil => rw [show ws = [] from U.inv] at q; cases q
    | cons y b =>
      obtain ⟨u, r', rfl, k1, k2⟩ := U.inv
      refine b1 e fun t e1 e => m1 (P := fun l => l.length = (v :: r).length ∧ ∀ j (h1 : j < (v :: r).length) (h2 : j < (u :: r').length), EqOk A s (v :: r)[j] (u :: r')[j] ((l[j]?).getD false)) e fun l e2 => ?_
      obtain ⟨i1, i2⟩ := ih h2 k2 e2 (Nat.succ.inj q)
      refine ⟨congrArg (· + 1) i1, fun j j1 j2 => ?_⟩
      cases j with
      | zero => exact hg _ _ _ _ _ h1 k1 e1
      | succ j => exact i2 j (Nat.lt_of_succ_lt_succ j1) (Nat.lt_of_succ_lt_succ j2)
theorem range_all (l : List Bool) : ((List.range l.length).all fun j => (l[j]?).getD false) = l.all id := by
  rw [Bool.eq_iff_iff]
  simp only [List.all_eq_true, List.mem_range, id]
  constructor
  · intro h x hx
    obtain ⟨i, hi, rfl⟩ := List.getElem_of_mem hx
    simpa [hi] using h i hi
  · intro h i hi
    simpa [hi] using h l[i] (List.getElem_mem hi)
theorem eqNone_ok {s : Shared} (hu : A.units < cLine) {vb : Value} {y : F} {b : Bool} (U : VF w (heldBy s.heap) vb y) (e : eqNone y = some b) : EqOk A s .none vb b := by
  have U := U.inv
  cases y with
  | none => cases e; obtain rfl : vb = .none := U; exact ⟨.none_none, .same _, .none_none⟩
  | str x => cases e; obtain ⟨t, rfl⟩ := U; exact ⟨.none_str _ _, .none_str _ _, .none_str _ _⟩
  | tup l => cases e; obtain ⟨a, o, vs, rfl, h1, h2, _⟩ := U; exact ⟨.none_tuple (h2.isTup h1) hu, .none_tuple (h2.isTup h1) hu, .none_tuple (h2.isTup h1) hu⟩
  | _ => exact nn e
theorem eq0_ok {s : Shared} (hu : A.units < cLine) : EqFor w A s eq0 := by
  intro va vb x y b V U e
  have V := V.inv
  cases x with
  | none => obtain rfl : va = .none := V; exact eqNone_ok hu U e
  | bool a =>
    obtain rfl : va = .bool a := V
    exact m1 (P := fun b => EqOk A s (.bool a) vb b) e fun b' h => by
      rw [fBool_eq h] at U
      obtain rfl : vb = .bool b' := U.inv
      exact ⟨.bool_bool _ _, .bool_bool _ _, .bool_bool _ _⟩
  | int a =>
    obtain ⟨t, rfl⟩ := V
    exact m1 (P := fun b => EqOk A s (.int a t) vb b) e fun b' h => by
      rw [fInt_eq h] at U
      obtain ⟨u, rfl⟩ := U.inv
      exact ⟨.int_int _ _ _ _, .int_int _ _ _ _, .int_int _ _ _ _⟩
  | str a =>
    obtain ⟨t, rfl⟩ := V
    refine i2 e (fun h e => ?_) fun _ e => m1 (P := fun b => EqOk A s (.str a t) vb b) e fun b' h => ?_
    · cases e
      rw [fNone_eq h] at U
      obtain rfl : vb = .none := U.inv
      exact ⟨.str_none _ _, .str_none _ _, .str_none _ _⟩
    · rw [fStr_eq h] at U
      obtain ⟨u, rfl⟩ := U.inv
      exact ⟨.str_str _ _ _ _, .str_str _ _ _ _, .str_str _ _ _ _⟩
  | tup a =>
    obtain ⟨a, o, vs, rfl, h1, h2, _⟩ := V
    refine i1 e fun h e => ?_
    cases e
    rw [fNone_eq h] at U
    obtain rfl : vb = .none := U.inv
    exact ⟨.tuple_none (h2.isTup h1) hu, .tuple_none (h2.isTup h1) hu, .tuple_none (h2.isTup h1) hu⟩
  | _ => exact nn e
/-- two objects, compared by what they hold, perhaps one and the same -/
theorem eq_refs {s : Shared} {a b : Addr} {r : Bool} (same : a = b → r = true) (h1 : RcAt A s (.ref a) (.ref b) r) (h2 : RcNeAt A s (.ref a) (.ref b) (!r)) : EqOk A s (.ref a) (.ref b) r := by
  refine ⟨h1, ?_, h2⟩
  by_cases q : a = b
  · rw [← q, same q]; exact .same _
  · exact .of_refs q h1
theorem eqN_ok {s : Shared} (n : Nat) : ∀ (A : Around), A.units + n < cLine → EqFor w A s (eqN n) := by
  induction n with
  | zero => exact fun A hu => eq0_ok hu
  | succ n ih =>
    intro A hu va vb x y b V U e
    have hu' : A.units < cLine := Nat.lt_of_le_of_lt (Nat.le_add_right _ _) hu
    have hi : A.in1.units + n < cLine := by show A.units + 1 + n < cLine; rw [Nat.add_right_comm]; exact hu
    have ih := ih A.in1 hi
    have e0 := e
    cases x with
    | tup a =>
      refine i2 e (fun h e => ?_) fun _ e => b1 e fun l h e => i1 e fun q e => m1 (P := fun b => eqN (n + 1) (.tup a) y = some b → EqOk A s va vb b) e (fun l e e0 => ?_) e0
      · cases e
        rw [fNone_eq h] at U
        obtain rfl : vb = .none := U.inv
        obtain ⟨a, o, vs, rfl, h1, h2, _⟩ := V.inv
        exact ⟨.tuple_none (h2.isTup h1) hu', .tuple_none (h2.isTup h1) hu', .tuple_none (h2.isTup h1) hu'⟩
      · have V0 := V
        have U0 := U
        rw [fTup_eq h] at U
        obtain ⟨aa, ao, av, rfl, a1, a2, a3⟩ := V.inv
        obtain ⟨ba, bo, bv, rfl, b1, b2, b3⟩ := U.inv
        have q' : av.length = bv.length := by rw [a3.length, b3.length, q]
        obtain ⟨i1, i2⟩ := eqs_get ih a a3 b3 e q'
        have hl : (((List.range (min av.toArray.size bv.toArray.size)).all fun j => (l[j]?).getD false) && (av.toArray.size == bv.toArray.size)) = l.all id := by
          rw [List.size_toArray, List.size_toArray, ← q', Nat.min_self, ← i1, range_all, beq_self_eq_true, Bool.and_true]
        have r1 := RcAt.tuples (A := A) (s := s) (e := fun j => (l[j]?).getD false) (a2.isTup a1) (b2.isTup b1) hu' fun j h1 h2 => (i2 j h1 h2).2.1
        have r2 := RcNeAt.tuples (A := A) (s := s) (e := fun j => (l[j]?).getD false) (a2.isTup a1) (b2.isTup b1) hu' fun j h1 h2 => (i2 j h1 h2).2.1
        rw [hl] at r1 r2
        exact eq_refs (fun q => eqN_same (n + 1) _ _ _ _ V0 (q ▸ U0) e0) r1 r2
    | lst a =>
      refine b1 e fun l h e => ?_
      have V0 := V
      have U0 := U
      rw [fLst_eq h] at U
      obtain ⟨aa, ao, av, rfl, a1, a2, a3⟩ := V.inv
      obtain ⟨ba, bo, bv, rfl, b1, b2, b3⟩ := U.inv
      have same : aa = ba → b = true := fun q => eqN_same (n + 1) _ _ _ _ V0 (q ▸ U0) e0
      refine i2 e (fun q e => m1 (P := fun b => (aa = ba → b = true) → EqOk A s (.ref aa) (.ref ba) b) e (fun l e same => ?_) same) fun q e => ?_
      · have q' : av.length = bv.length := by rw [a3.length, b3.length, q]
        obtain ⟨i1, i2⟩ := eqs_get ih a a3 b3 e q'
        have hl : ((List.range av.toArray.size).all fun j => (l[j]?).getD false) = l.all id := by
          rw [List.size_toArray, ← i1, range_all]
        have r1 := RcAt.lists (A := A) (s := s) (e := fun j => (l[j]?).getD false) (a2.isList a1) (b2.isList b1) q' hu' fun j h1 h2 => (i2 j h1 h2).2.1
        have r2 := RcNeAt.lists (A := A) (s := s) (e := fun j => (l[j]?).getD false) (a2.isList a1) (b2.isList b1) q' hu' fun j h1 h2 => (i2 j h1 h2).2.1
        rw [hl] at r1 r2
        exact eq_refs same r1 r2
      · cases e
        have q' : (av.toArray.size != bv.toArray.size) = true := by
          rw [List.size_toArray, List.size_toArray, a3.length, b3.length]; exact bne_iff_ne.mpr q
        exact eq_refs same (RcAt.lists_lengths (A := A) (s := s) (a2.isList a1) (b2.isList b1) q' hu') (RcNeAt.lists_lengths (A := A) (s := s) (a2.isList a1) (b2.isList b1) q' hu')
    | _ => exact eq0_ok hu' _ _ _ _ _ V U e
end
end Mine

end
noncomputable section
set_option Elab.async false
set_option maxRecDepth 100000
set_option maxHeartbeats 2000000
/-! lists in order -/
open PySem PySem.W PySem.Spec PySem.Calls PyProof.Rows
open PySem.SeqAt
open PySem.AutoSeq1 (wpAny_loadPart')
open PySem.MeetsSeq PySem.MeetsSeq2 PySem.MeetsSeq3 PySem.SeqRoads2
namespace Mine
section
variable {A : Around}
noncomputable def OrdAt (A : Around) (s : Shared) (op : CmpOp) (y x : Value) (b : Bool) : Prop :=
  ∀ (prog : Program) (w : World) (E : Value → Shared → Prop) (Q : Value → Shared → Prop), Q (.bool b) s → wpAny (model prog w) A (richCompare op y x) Q E s
noncomputable def OpC (op : CmpOp) (code : Nat) : Prop := (op = .Lt ∧ code = 0) ∨ (op = .LtE ∧ code = 1) ∨ (op = .Gt ∧ code = 4)
noncomputable def szs (op : CmpOp) (m n : Nat) : Bool := match op with
  | .Lt => decide (m < n)
  | .LtE => decide (m ≤ n)
  | _ => decide (n < m)
noncomputable def OrdR (A : Around) (s : Shared) (op : CmpOp) (M N : Nat) : List Value → List Value → Bool → Prop
  | x :: xs, y :: ys, r => (EqAt A s x y true ∧ OrdR A s op M N xs ys r) ∨ (EqAt A s x y false ∧ OrdAt A s op x y r)
  | _, _, r => r = szs op M N

theorem drop_get {α : Type} {l : List α} {i : Nat} {x : α} {xs : List α} (h : l.drop i = x :: xs) : l[i]? = some x ∧ l.drop (i + 1) = xs := by
  have h1 : l[i]? = some x := by
    have := congrArg (fun y => y[0]?) h
    simpa using this
  refine ⟨h1, ?_⟩
  have := congrArg List.tail h
  simpa [List.tail_drop] using this
theorem drop_none {α : Type} {l : List α} {i : Nat} (h : l.drop i = []) : l[i]? = none := by
  rw [List.drop_eq_nil_iff] at h
  exact List.getElem?_eq_none h

theorem ord_loop (op : CmpOp) (code : Nat) (hop : OpC op code) (l b : Addr) (vs ws : List Value) (n n2 : Nat) (r : Bool) :
    ∀ (xs : List Value) (i : Nat) (ys : List Value), vs.drop i = xs → ws.drop i = ys →
      Meets (Builtin.«list.__eq__.loop» ⟨[.ref l, .ref b, rawInt i, rawInt code], []⟩)
      (fun A R s => s.heap.get? l = some { cls := .type "list", data := .seq vs.toArray n } ∧ s.heap.get? b = some { cls := .type "list", data := .seq ws.toArray n2 } ∧
        OrdR A.in1 s op vs.length ws.length xs ys r ∧ R (.ok (.ret (.bool r))) s) := by
  have ends : ∀ (i : Nat), (vs[i]? = none ∨ ws[i]? = none) → r = szs op vs.length ws.length → Meets (Builtin.«list.__eq__.loop» ⟨[.ref l, .ref b, rawInt i, rawInt code], []⟩)
      (fun A R s => s.heap.get? l = some { cls := .type "list", data := .seq vs.toArray n } ∧ s.heap.get? b = some { cls := .type "list", data := .seq ws.toArray n2 } ∧ R (.ok (.ret (.bool r))) s) := by
    intro i hi hr prog w A R s h
    obtain ⟨hp, g, d, tk, os⟩ := s; obtain ⟨hl, hb, h⟩ := h
    rcases hop with ⟨rfl, rfl⟩ | ⟨rfl, rfl⟩ | ⟨rfl, rfl⟩ <;>
    · wp_walk using wpAny_loadPart' hl, wpAny_loadPart' hb
      rcases hi with hi | hi
      · have hi1 : vs.toArray[((i : Nat) : Int).toNat]? = none := by simpa using hi
        rw [hi1]
        wp_walk using wpAny_loadPart' hl, wpAny_loadPart' hb
        rw [hr] at h; exact h
      · have hi1 : ws.toArray[((i : Nat) : Int).toNat]? = none := by simpa using hi
        rw [hi1]
        cases vs.toArray[((i : Nat) : Int).toNat]? <;>
        · wp_walk using wpAny_loadPart' hl, wpAny_loadPart' hb
          rw [hr] at h; exact h
  intro xs
  induction xs with
  | nil =>
    intro i ys h1 h2 prog w A R s h
    exact ends i (.inl (drop_none h1)) h.2.2.1 prog w A R s ⟨h.1, h.2.1, h.2.2.2⟩
  | cons x xs ih =>
    intro i ys h1 h2 prog w A R s h
    cases ys with
    | nil => exact ends i (.inr (drop_none h2)) h.2.2.1 prog w A R s ⟨h.1, h.2.1, h.2.2.2⟩
    | cons y ys =>
      obtain ⟨g1, d1⟩ := drop_get h1
      obtain ⟨g2, d2⟩ := drop_get h2
      obtain ⟨hp, g, d, tk, os⟩ := s; obtain ⟨hl, hb, ho, h⟩ := h
      have hi1 : vs.toArray[((i : Nat) : Int).toNat]? = some x := by simpa using g1
      have hi2 : ws.toArray[((i : Nat) : Int).toNat]? = some y := by simpa using g2
      have hc : ((i : Int) + 1) = ((i + 1 : Nat) : Int) := by push_cast; rfl
      rcases ho with ⟨he, ho⟩ | ⟨he, ho⟩
      · have next : ∀ A', A' = A → codeAny (model prog w) A' (.builtin "list.__eq__.loop" ⟨[.ref l, .ref b, rawInt ((i + 1 : Nat) : Int), rawInt code], []⟩) R ⟨hp, g, d, tk, os⟩ := fun A' e => by
          subst e
          exact codeAny_builtin entry_eq_loop (by
            rw [Around.under_plainId plain_eq_loop _]
            exact ih (i + 1) ys d1 d2 prog w A' R _ ⟨hl, hb, ho, h⟩)
        rcases hop with ⟨rfl, rfl⟩ | ⟨rfl, rfl⟩ | ⟨rfl, rfl⟩ <;>
        · wp_walk using wpAny_loadPart' hl, wpAny_loadPart' hb
          rw [hi1, hi2]
          refine wpAny_bind (he prog w _ _ ?_)
          wp_walk
          rw [hc]
          exact ⟨plainId_quiet plain_eq_loop _, next _ rfl⟩
      · rcases hop with ⟨rfl, rfl⟩ | ⟨rfl, rfl⟩ | ⟨rfl, rfl⟩ <;>
        · wp_walk using wpAny_loadPart' hl, wpAny_loadPart' hb
          rw [hi1, hi2]
          refine wpAny_bind (he prog w _ _ ?_)
          wp_walk using wpAny_loadPart' hl, wpAny_loadPart' hb
          rw [hi1, hi2]
          exact wpAny_bind (ho prog w _ _ (wpAny_pure h))
end
end Mine

end
noncomputable section
set_option Elab.async false
set_option maxRecDepth 100000
set_option maxHeartbeats 2000000
/-! comparisons: the whole -/
open PySem PySem.W PySem.Spec PySem.Calls PyProof.Rows
open PySem.SeqAt
open PySem.AutoSeq1 (wpAny_loadPart')
open PySem.MeetsSeq PySem.MeetsSeq2 PySem.MeetsSeq3 PySem.SeqRoads2
namespace Mine
section
variable {w : World} {g : Heap} {c : Cf} {A : Around}
noncomputable def BOf : CmpOp → Builtin
  | .Lt => Builtin.«list.__lt__»
  | .LtE => Builtin.«list.__le__»
  | _ => Builtin.«list.__gt__»
theorem ord_meets (op : CmpOp) (code : Nat) (hop : OpC op code) (l b : Addr) (vs ws : List Value) (n n2 : Nat) (r : Bool) :
    Meets (BOf op ⟨[.ref l, .ref b], []⟩)
      (fun A R s => s.heap.get? l = some { cls := .type "list", data := .seq vs.toArray n } ∧ s.heap.get? b = some { cls := .type "list", data := .seq ws.toArray n2 } ∧
        OrdR A.in1 s op vs.length ws.length vs ws r ∧ R (.ok (.ret (.bool r))) s) := by
  intro prog w A R s h
  obtain ⟨hp, g, d, tk, os⟩ := s; obtain ⟨hl, hb, he, h⟩ := h
  have f3 := AutoSeq1.sub_list_list
  have key := ord_loop op code hop l b vs ws n n2 r vs 0 ws rfl rfl prog w A R ⟨hp, g, d, tk, os⟩ ⟨hl, hb, he, h⟩
  rcases hop with ⟨rfl, rfl⟩ | ⟨rfl, rfl⟩ | ⟨rfl, rfl⟩ <;> unfold BOf <;>
  · wp_walk using wpAny_loadPart' hl, wpAny_loadPart' hb
    exact ⟨plainId_quiet plain_eq_loop _, codeAny_builtin entry_eq_loop (by
      rw [Around.under_plainId plain_eq_loop _]
      exact key)⟩
theorem ord_lists (op : CmpOp) (code : Nat) (hop : OpC op code) {s : Shared} (l b : Addr) (vs ws : List Value) (r : Bool) {o o2 : Obj} (hl : s.heap.get? l = some o) (il : isL o vs) (hb : s.heap.get? b = some o2) (ib : isL o2 ws)
    (hu : A.units < cLine) (h : OrdR A.in1 s op vs.length ws.length vs ws r) : OrdAt A s op (.ref l) (.ref b) r := fun prog w E Q q => by
  obtain ⟨n, rfl⟩ := il
  obtain ⟨n2, rfl⟩ := ib
  have m := ord_meets op code hop l b vs ws n n2 r
  rcases hop with ⟨rfl, rfl⟩ | ⟨rfl, rfl⟩ | ⟨rfl, rfl⟩
  · exact richCompare_meets_room (op := .Lt) ⟨_, hl, rfl⟩ ⟨_, hb, rfl⟩ PySem.F.slot_list_lt PySem.F.entry_list_lt (PySem.F.args_list_lt_2 _ _) m
      ⟨hl, hb, h, show Value.bool r ≠ Value.notImplemented ∧ Q (.bool r) s from ⟨(fun x => nomatch x), q⟩⟩ hu
  · exact richCompare_meets_room (op := .LtE) ⟨_, hl, rfl⟩ ⟨_, hb, rfl⟩ PySem.F.slot_list_le PySem.F.entry_list_le (PySem.F.args_list_le_2 _ _) m
      ⟨hl, hb, h, show Value.bool r ≠ Value.notImplemented ∧ Q (.bool r) s from ⟨(fun x => nomatch x), q⟩⟩ hu
  · exact richCompare_meets_room (op := .Gt) ⟨_, hl, rfl⟩ ⟨_, hb, rfl⟩ PySem.F.slot_list_gt PySem.F.entry_list_gt (PySem.F.args_list_gt_2 _ _) m
      ⟨hl, hb, h, show Value.bool r ≠ Value.notImplemented ∧ Q (.bool r) s from ⟨(fun x => nomatch x), q⟩⟩ hu

theorem szs_nil (op : CmpOp) {code : Nat} (hop : OpC op code) (k : Nat) : szs op k k = (op == .LtE) ∧ (∀ n, szs op k (k + (n + 1)) = (op != .Gt)) ∧ ∀ m, szs op (k + (m + 1)) k = (op == .Gt) := by
  rcases hop with ⟨rfl, rfl⟩ | ⟨rfl, rfl⟩ | ⟨rfl, rfl⟩
  · exact ⟨decide_eq_false (by omega), fun n => decide_eq_true (by omega), fun m => decide_eq_false (by omega)⟩
  · exact ⟨decide_eq_true (by omega), fun n => decide_eq_true (by omega), fun m => decide_eq_false (by omega)⟩
  · exact ⟨decide_eq_false (by omega), fun n => decide_eq_false (by omega), fun m => decide_eq_true (by omega)⟩
noncomputable def OrdFor (w : World) (A : Around) (s : Shared) (op : CmpOp) (hn : F → F → Option Bool) : Prop := ∀ va vb x y b, VF w (heldBy s.heap) va x → VF w (heldBy s.heap) vb y → hn x y = some b → OrdAt A s op va vb b
theorem ords_ok {s : Shared} {op : CmpOp} {code : Nat} (hop : OpC op code) {gn hn : F → F → Option Bool} (hg : EqFor w A s gn) (hh : OrdFor w A s op hn) (a : List F) :
    ∀ {vs ws : List Value} {b : List F} {r : Bool} (k : Nat), VFs w (heldBy s.heap) vs a → VFs w (heldBy s.heap) ws b → ords op gn hn a b = some r → OrdR A s op (k + vs.length) (k + ws.length) vs ws r := by
  induction a with
  | nil =>
    intro vs ws b r k V U e
    obtain rfl : vs = [] := V.inv
    cases b with
    | nil => cases e; rw [show ws = [] from U.inv]; exact (szs_nil op hop k).1.symm
    | cons y b =>
      obtain ⟨u, r', rfl, _⟩ := U.inv
      cases e; exact ((szs_nil op hop k).2.1 _).symm
  | cons x a ih =>
    intro vs ws b r k V U e
    obtain ⟨v, q, rfl, h1, h2⟩ := V.inv
    cases b with
    | nil => cases e; rw [show ws = [] from U.inv]; exact ((szs_nil op hop k).2.2 _).symm
    | cons y b =>
      obtain ⟨u, q', rfl, k1, k2⟩ := U.inv
      refine b1 e fun t e3 e4 => ?_
      cases t with
      | true =>
        have := ih (k + 1) h2 k2 e4
        rw [Nat.add_right_comm k 1, Nat.add_right_comm k 1] at this
        exact .inl ⟨(hg _ _ _ _ _ h1 k1 e3).2.1, this⟩
      | false => exact .inr ⟨(hg _ _ _ _ _ h1 k1 e3).2.1, hh _ _ _ _ _ h1 k1 e4⟩
theorem ordI_ok {s : Shared} {op : CmpOp} {x y : Int} {t u : Tok} {b : Bool} (h : ordI op x y = some b) : OrdAt A s op (.int x t) (.int y u) b := fun prog w E Q q => by
  cases op with
  | Lt => cases h; exact lt_int q
  | LtE => cases h; exact le_int q
  | Gt => cases h; exact gt_int q
  | _ => exact nn h
theorem ordA_ok {s : Shared} {op : CmpOp} : OrdFor w A s op (ordA op) := fun va vb x y b V U e =>
  b1 e fun n h1 e => b1 e fun m h2 e => by
    rw [fInt_eq h1] at V
    rw [fInt_eq h2] at U
    obtain ⟨t, rfl⟩ := V.inv
    obtain ⟨u, rfl⟩ := U.inv
    exact ordI_ok e
theorem isOrd_ok {op : CmpOp} (h : isOrd op = true) : ∃ code, OpC op code := by
  cases op with
  | Lt => exact ⟨0, .inl ⟨rfl, rfl⟩⟩
  | LtE => exact ⟨1, .inr (.inl ⟨rfl, rfl⟩)⟩
  | Gt => exact ⟨4, .inr (.inr ⟨rfl, rfl⟩)⟩
  | _ => cases h
theorem ordN_ok {s : Shared} {op : CmpOp} (n : Nat) : ∀ (A : Around), A.units + n + 1 < cLine → OrdFor w A s op (ordN n op) := by
  induction n with
  | zero => exact fun A _ => ordA_ok
  | succ n ih =>
    intro A hu va vb x y b V U e
    have hu' : A.units < cLine := by omega
    have hi : A.in1.units + n + 1 < cLine := by show A.units + 1 + n + 1 < cLine; omega
    unfold ordN at e
    cases q : fLst x with
    | none => rw [q] at e; exact ordA_ok _ _ _ _ _ V U e
    | some a =>
      rw [q] at e
      refine i1 e fun q2 e => b1 e fun b' h e => ?_
      obtain ⟨code, hop⟩ := isOrd_ok q2
      rw [fLst_eq q] at V
      rw [fLst_eq h] at U
      obtain ⟨aa, ao, av, rfl, a1, a2, a3⟩ := V.inv
      obtain ⟨ba, bo, bv, rfl, b1, b2, b3⟩ := U.inv
      have := ords_ok hop (eqN_ok n A.in1 (Nat.lt_of_succ_lt hi)) (ih A.in1 hi) a 0 a3 b3 e
      rw [Nat.zero_add, Nat.zero_add] at this
      exact ord_lists op code hop _ _ _ _ b a1 a2 b1 b2 hu' this

/-! «in» a tuple: of ints or of strs -/
noncomputable def eqV (va y : Value) : Bool := match va with
  | .int m _ => (match y with | .int n _ => n == m | _ => false)
  | .str m _ => (match y with | .str n _ => n == m | _ => false)
  | _ => false
theorem memA_ok {s : Shared} (A : Around) {va y : Value} {a x : F} {b : Bool} (Va : VF w (heldBy s.heap) va a) (V : VF w (heldBy s.heap) y x) (h : memA a x = some b) : EqAt A s y va (eqV va y) ∧ eqV va y = b := by
  unfold memA at h
  cases q : fInt a with
  | some m =>
    rw [q] at h
    rw [fInt_eq q] at Va
    obtain ⟨t, rfl⟩ := Va.inv
    exact m1 (P := fun b => EqAt A s y (.int m t) (eqV (.int m t) y) ∧ eqV (.int m t) y = b) h fun n e => by
      rw [fInt_eq e] at V
      obtain ⟨u, rfl⟩ := V.inv
      exact ⟨.int_int _ _ _ _, rfl⟩
  | none =>
    rw [q] at h
    refine b1 h fun m q h => ?_
    rw [fStr_eq q] at Va
    obtain ⟨t, rfl⟩ := Va.inv
    exact m1 (P := fun b => EqAt A s y (.str m t) (eqV (.str m t) y) ∧ eqV (.str m t) y = b) h fun n e => by
      rw [fStr_eq e] at V
      obtain ⟨u, rfl⟩ := V.inv
      exact ⟨.str_str _ _ _ _, rfl⟩
theorem mem_ok {s : Shared} (A : Around) {va : Value} {a : F} (Va : VF w (heldBy s.heap) va a) (fs : List F) : ∀ {vs : List Value} {b : Bool}, VFs w (heldBy s.heap) vs fs → memF a fs = some b → (∀ y ∈ vs, EqAt A s y va (eqV va y)) ∧ vs.any (eqV va) = b := by
  induction fs with
  | nil => intro vs b V h; cases h; obtain rfl : vs = [] := V.inv; exact ⟨fun _ h => (nomatch h), rfl⟩
  | cons x fs ih =>
    intro vs b V h
    obtain ⟨v, r, rfl, h1, h2⟩ := V.inv
    refine b1 h fun p e1 h => m1 (P := fun b => (∀ y ∈ v :: r, EqAt A s y va (eqV va y)) ∧ (v :: r).any (eqV va) = b) h fun q e2 => ?_
    obtain ⟨i1, i2⟩ := ih h2 e2
    obtain ⟨j1, j2⟩ := memA_ok A Va h1 e1
    refine ⟨fun y hy => ?_, by rw [List.any_cons, i2, j2]⟩
    rcases List.mem_cons.mp hy with rfl | hy
    · exact j1
    · exact i1 y hy
end
end Mine

end
noncomputable section
set_option Elab.async false
set_option maxRecDepth 100000
set_option maxHeartbeats 2000000
/-! dicts -/
open PySem PySem.W PySem.Spec PySem.Calls PyProof.Rows
open PySem.SeqAt
namespace Mine
section
variable {w : World} {g : Heap} {c : Cf} {A : Around}
noncomputable def KeyAt (w : World) (p : Pm) : Key → Value → Prop
  | .s x, v => ∃ t, v = .str x t
  | .i n, v => ∃ t, v = .int n t
  | .t ns, v => ∃ a o its, v = .ref a ∧ p a o ∧ isT o its ∧ ItemsAre (intKind pw w) ns its
theorem intsOf_ok {p : Pm} (fs : List F) : ∀ {vs : List Value} {ns : List Int}, VFs w p vs fs → intsOf fs = some ns → ItemsAre (intKind pw w) ns vs := by
  induction fs with
  | nil => intro vs ns V e; cases e; rw [show vs = [] from V.inv]; exact .nil
  | cons x r ih =>
    intro vs ns V e
    obtain ⟨v, us, rfl, h1, h2⟩ := V.inv
    refine b1 e fun n e1 e => m1 (P := fun ns => ItemsAre (intKind pw w) ns (v :: us)) e fun ms e2 => ?_
    rw [fInt_eq e1] at h1
    obtain ⟨t, rfl⟩ := h1.inv
    exact .cons (by simp [intKind, Value.isInt]) (ih h2 e2)
theorem fKey_ok {p : Pm} {v : Value} {x : F} {k : Key} (V : VF w p v x) (h : fKey x = some k) : KeyAt w p k v := by
  cases x with
  | str s => cases h; exact V.inv
  | int n => cases h; exact V.inv
  | tup fs =>
    obtain ⟨a, o, vs, rfl, h1, h2, h3⟩ := V.inv
    exact m1 (P := fun k => KeyAt w p k (.ref a)) h fun ns e => ⟨a, o, vs, rfl, h1, h2, intsOf_ok fs h3 e⟩
  | _ => exact nn h
theorem asKey_ok {p : Pm} {φ : Phi} {v : Value} {d : D} {k : Key} (V : VD w p φ v d) (h : asKey d = some k) : KeyAt w p k v :=
  let ⟨_, V, h⟩ := dFp V h; fKey_ok V h

theorem dictO_nil {κ : Type} [DecidableEq κ] {knd : KeyKind pw w κ} {o : Obj} (h : o.ExactDict) (e : ∃ ep, o.data = .dict #[] ep) : DictO w knd o [] :=
  let ⟨ep, e⟩ := e; ⟨#[], ep, h, e, fun e he => absurd he (Array.not_mem_empty e), .nil, List.nodup_nil⟩
theorem pairs_nil {K : Type} [DecidableEq K] {knd : KeyKind pw w K} {es : List DictEntry} (h : Pairs knd es []) : es = [] := by cases h; rfl
theorem nil_dictO {κ : Type} [DecidableEq κ] {knd : KeyKind pw w κ} {o : Obj} (h : DictO w knd o []) : o.ExactDict ∧ ∃ ep, o.data = .dict #[] ep := by
  obtain ⟨es, ep, h1, h2, h3, h4, h5⟩ := h
  obtain rfl : es = #[] := by rw [← Array.toList_inj]; exact pairs_nil h4
  exact ⟨h1, ep, h2⟩
theorem isDk_nil {p : Pm} {o : Obj} {kvs : List (Key × Value)} (h : isDk w p o kvs) (e : kvs = []) : o.ExactDict ∧ ∃ ep, o.data = .dict #[] ep := by
  cases h with
  | s l h => rw [List.map_eq_nil_iff.mp e] at h; exact nil_dictO h
  | i l h => rw [List.map_eq_nil_iff.mp e] at h; exact nil_dictO h
  | t l h k =>
    rw [List.map_eq_nil_iff.mp e] at h
    obtain ⟨es, ep, h1, h2, h3, h4⟩ := h
    obtain rfl : es = #[] := by rw [← Array.toList_inj]; exact h3
    exact ⟨h1, ep, h2⟩
/-- a dict as the key's kind sees it -/
noncomputable def DkAt (w : World) (p : Pm) (o : Obj) (kvs : List (Key × Value)) : Key → Prop
  | .s _ => ∃ l, kvs = l.map kS ∧ DictO w (strKind pw w) o l
  | .i _ => ∃ l, kvs = l.map kI ∧ DictO w (intKind pw w) o l
  | .t _ => ∃ l, kvs = l.map kT ∧ DictOH w o l ∧ HeldT w p l
theorem dk_of {p : Pm} {o : Obj} {kvs : List (Key × Value)} (h : isDk w p o kvs) {k : Key} (hk : kvs.all (fun e => sameKind k e.1) = true) : DkAt w p o kvs k := by
  by_cases e : kvs = []
  · obtain ⟨h1, h2⟩ := isDk_nil h e
    subst e
    cases k with
    | s x => exact ⟨[], rfl, dictO_nil h1 h2⟩
    | i x => exact ⟨[], rfl, dictO_nil h1 h2⟩
    | t x => obtain ⟨ep, h2⟩ := h2; exact ⟨[], rfl, ⟨#[], ep, h1, h2, rfl, List.nodup_nil⟩, fun _ h => nomatch h⟩
  · cases h with
    | s l h =>
      cases l with
      | nil => exact absurd rfl e
      | cons y l => cases k with
        | s x => exact ⟨_, rfl, h⟩
        | _ => cases hk
    | i l h =>
      cases l with
      | nil => exact absurd rfl e
      | cons y l => cases k with
        | i x => exact ⟨_, rfl, h⟩
        | _ => cases hk
    | t l h z =>
      cases l with
      | nil => exact absurd rfl e
      | cons y l => cases k with
        | t x => exact ⟨_, rfl, h, z⟩
        | _ => cases hk
theorem tupleKey_of {h : Heap} {a : Addr} {o : Obj} {its : List Value} {ns : List Int} (e : h.get? a = some o) (t : isT o its) (i : ItemsAre (intKind pw w) ns its) : IsTupleKey (intKind pw w) h ns a :=
  let ⟨hc, n, hd⟩ := t; ⟨o, its.toArray, n, e, hc, hd, i⟩

section
variable {p : Pm} {φ : Phi} {kvs : List (Key × Value)} {es : List (Key × D)} (V : VKDs w p φ kvs es)
include V
theorem vkds_all (f : Key → Bool) : (kvs.all fun e => f e.1) = es.all fun e => f e.1 := by
  induction V with
  | nil => rfl
  | cons _ _ ih => rw [List.all_cons, List.all_cons, ih]
theorem vkds_any (f : Key → Bool) : (kvs.any fun e => f e.1) = es.any fun e => f e.1 := by
  induction V with
  | nil => rfl
  | cons _ _ ih => rw [List.any_cons, List.any_cons, ih]
theorem vkds_lookup (k : Key) : (∀ d, es.lookup k = some d → ∃ v, kvs.lookup k = some v ∧ VD w p φ v d) ∧ (es.lookup k = none → kvs.lookup k = none) := by
  induction V with
  | nil => exact ⟨fun d e => nn e, fun _ => rfl⟩
  | @cons k' v d vs ds h _ ih =>
    rw [List.lookup_cons, List.lookup_cons]
    cases hb : k == k' with
    | true => exact ⟨fun d' e => by cases e; exact ⟨v, rfl, h⟩, fun e => by cases e⟩
    | false => exact ih
theorem vkds_len : kvs.length = es.length := by
  induction V with
  | nil => rfl
  | cons _ _ ih => rw [List.length_cons, List.length_cons, ih]
end
theorem beq_key {κ : Type} [DecidableEq κ] {f : κ → Key} (hf : ∀ a b, f a = f b → a = b) (a b : κ) : (f a == f b) = decide (a = b) := by
  by_cases h : a = b
  · subst h; simp
  · rw [decide_eq_false h]; exact beq_eq_false_iff_ne.mpr fun q => h (hf _ _ q)
theorem lookup_gen {κ : Type} [DecidableEq κ] (f : κ → Key) (hf : ∀ a b, f a = f b → a = b) (l : List (κ × Value)) (x : κ) : (l.map fun x => (f x.1, x.2)).lookup (f x) = valueAt l x := by
  unfold valueAt
  induction l with
  | nil => rfl
  | cons y l ih =>
    rw [List.map_cons, List.lookup_cons, List.find?_cons, beq_key hf]
    by_cases h : x = y.1
    · subst h; simp
    · rw [decide_eq_false h, decide_eq_false (fun q : y.1 = x => h q.symm)]; exact ih
theorem lookup_str (l : List (Str × Value)) (x : Str) : (l.map kS).lookup (.s x) = valueAt l x := lookup_gen Key.s (fun _ _ e => by injection e) l x
theorem lookup_int (l : List (Int × Value)) (x : Int) : (l.map kI).lookup (.i x) = valueAt l x := lookup_gen Key.i (fun _ _ e => by injection e) l x
theorem lookup_tup (l : List (List Int × Addr × Value)) (x : List Int) : (l.map kT).lookup (.t x) = (atKey l x).map (·.2) := by
  unfold atKey
  induction l with
  | nil => rfl
  | cons y l ih =>
    rw [List.map_cons, List.lookup_cons, List.find?_cons, beq_key (f := Key.t) (fun _ _ e => by injection e)]
    by_cases h : x = y.1
    · subst h; simp
    · rw [decide_eq_false h, decide_eq_false (fun q : y.1 = x => h q.symm)]; exact ih
theorem any_lookup {α : Type} (l : List (Key × α)) (k : Key) : (l.any fun e => e.1 == k) = (l.lookup k).isSome := by
  induction l with
  | nil => rfl
  | cons y l ih =>
    rw [List.any_cons, List.lookup_cons, beq_key (f := fun k : Key => k) (fun _ _ e => e), beq_key (f := fun k : Key => k) (fun _ _ e => e)]
    by_cases h : k = y.1
    · subst h; simp
    · rw [decide_eq_false h, decide_eq_false (fun q : y.1 = k => h q.symm), Bool.false_or]; exact ih
theorem dictOf {κ : Type} [DecidableEq κ] {knd : KeyKind pw w κ} {h : Heap} {a : Addr} {o : Obj} {l : List (κ × Value)} (e : h.get? a = some o) (d : DictO w knd o l) : h.DictOf knd a l :=
  let ⟨es, ep, r⟩ := d; ⟨o, es, ep, e, r⟩
theorem dictOfH {h : Heap} {a : Addr} {o : Obj} {l : List (List Int × Addr × Value)} {p : Pm} (hp : ∀ a o, p a o → h.get? a = some o) (e : h.get? a = some o) (d : DictOH w o l) (z : HeldT w p l) :
    h.DictOfH (tupleKind (intKind pw w)) a l :=
  let ⟨es, ep, h1, h2, h3, h4⟩ := d
  ⟨o, es, ep, e, h1, h2, h3, fun x hx => let ⟨_, _, q1, q2, q3⟩ := z x hx; tupleKey_of (hp _ _ q1) q2 q3, h4⟩

section
variable (W : Wd w g c) (hu : A.units + 1 < cLine) {a : Addr} {o : Obj} {kvs : List (Key × Value)} {es : List (Key × D)} {k : Key} {vk : Value} (ha : c.s.heap.get? a = some o)
/-- «in» a dict, and «not in» -/
noncomputable def InAt (w : World) (A : Around) (s : Shared) (va vb : Value) (b : Bool) : Prop := ∀ (E : Value → Shared → Prop) (Q : Value → Shared → Prop), ((∀ t, Q (.bool b) { s with toks := t }) → wpAny (model pw w) A (compareOp .In va vb) Q E s) ∧ ((∀ t, Q (.bool !b) { s with toks := t }) → wpAny (model pw w) A (compareOp .NotIn va vb) Q E s)
include W hu ha
theorem inD_ok (hs : (a == sysModules) = false) (hd : isDk w c.p o kvs) (V : VKDs w c.p c.φ kvs es) (hk : es.all (fun e => sameKind k e.1) = true) (K : KeyAt w c.p k vk) : InAt w A c.s vk (.ref a) (es.any fun e => e.1 == k) := by
  have hD := dk_of hd ((vkds_all V (sameKind k)).trans hk)
  rw [← vkds_any V (· == k), any_lookup]
  intro E Q
  cases k with
  | s x =>
    obtain ⟨t, rfl⟩ := K
    obtain ⟨l, rfl, D⟩ := hD
    rw [lookup_str]
    exact ⟨fun hq => wpAny_in_of (knd := PySem.strKind pw w) (k := x) (by simp [PySem.strKind, Value.isStrOf]) hs (dictOf ha D).mapOf (hq _), fun hq => wpAny_notIn_of (knd := PySem.strKind pw w) (k := x) (by simp [PySem.strKind, Value.isStrOf]) hs (dictOf ha D).mapOf (hq _)⟩
  | i x =>
    obtain ⟨t, rfl⟩ := K
    obtain ⟨l, rfl, D⟩ := hD
    rw [lookup_int]
    exact ⟨fun hq => wpAny_in_of (knd := intKind pw w) (k := x) (by simp [intKind, Value.isInt]) hs (dictOf ha D).mapOf (hq _), fun hq => wpAny_notIn_of (knd := intKind pw w) (k := x) (by simp [intKind, Value.isInt]) hs (dictOf ha D).mapOf (hq _)⟩
  | t x =>
    obtain ⟨ak, ok, its, rfl, q1, q2, q3⟩ := K
    obtain ⟨l, rfl, D, z⟩ := hD
    rw [lookup_tup, Option.isSome_map]
    have T := tupleKey_of (W.sub _ _ q1) q2 q3
    have DH := dictOfH W.sub ha D z
    exact ⟨fun hq => wpAny_in_heap (knd := tupleKind (intKind pw w)) (k := x) (tupleKind_room_in1 hu) T hs DH (hq _), fun hq => wpAny_notIn_heap (knd := tupleKind (intKind pw w)) (k := x) (tupleKind_room_in1 hu) T hs DH (hq _)⟩
/-- a dict's value -/
theorem getD_ok (hd : isDk w c.p o kvs) (V : VKDs w c.p c.φ kvs es) (hk : es.all (fun e => sameKind k e.1) = true) (K : KeyAt w c.p k vk) {d : D} (h : es.lookup k = some d) {E : Value → Shared → Prop} {Q : Value → Shared → Prop}
    (hq : ∀ v t, VD w c.p c.φ v d → Q v { c.s with toks := t }) : wpAny (model pw w) A (getItem (.ref a) vk) Q E c.s := by
  have hD := dk_of hd ((vkds_all V (sameKind k)).trans hk)
  obtain ⟨v, hv, Vv⟩ := (vkds_lookup V k).1 d h
  cases k with
  | s x =>
    obtain ⟨t, rfl⟩ := K
    obtain ⟨l, rfl, D⟩ := hD
    rw [lookup_str] at hv
    exact wpAny_getItem_of (knd := PySem.strKind pw w) (k := x) (by simp [PySem.strKind, Value.isStrOf]) (dictOf ha D).mapOf hv (hq _ _ Vv)
  | i x =>
    obtain ⟨t, rfl⟩ := K
    obtain ⟨l, rfl, D⟩ := hD
    rw [lookup_int] at hv
    exact wpAny_getItem_of (knd := intKind pw w) (k := x) (by simp [intKind, Value.isInt]) (dictOf ha D).mapOf hv (hq _ _ Vv)
  | t x =>
    obtain ⟨ak, ok, its, rfl, q1, q2, q3⟩ := K
    obtain ⟨l, rfl, D, z⟩ := hD
    rw [lookup_tup] at hv
    obtain ⟨y, hy, rfl⟩ := Option.map_eq_some_iff.mp hv
    exact wpAny_getItem_heap (knd := tupleKind (intKind pw w)) (k := x) (tupleKind_room_in1 hu) (tupleKey_of (W.sub _ _ q1) q2 q3) (dictOfH W.sub ha D z) hy (hq _ _ Vv)
end
end
end Mine

end
noncomputable section
set_option Elab.async false
set_option maxRecDepth 100000
set_option maxHeartbeats 1000000
set_option linter.unusedVariables false
/-! expressions, first part -/
open PySem PySem.W PySem.Spec PySem.Calls PyProof.Rows
namespace Mine
theorem listE_eq {e : Expr} {es : List Expr} (h : listE e = some es) : ∃ p, e = .List es p := by cases e with | List es p => cases h; exact ⟨p, rfl⟩ | _ => exact nn h
section
variable {w : World} {g : Heap} {c : Cf} {A : Around} {env : Env} {sc : Sc} {ρ : Rho} {T : Tabs} {R : Rec} {n : Nat} {mg mb : Str → Option Value}
inductive OutL (w : World) (g : Heap) (c : Cf) (vs : List Value) (ds : List D) (H' : Hp) (s' : Shared) : Prop
  | mk {p : Pm} {φ : Phi} : Wd w g ⟨p, φ, H', s'⟩ → Go [] c ⟨p, φ, H', s'⟩ → VDs w p φ vs ds → OutL w g c vs ds H' s'
theorem wpL {t : Sem (List Value)} {ds : List D} {H' : Hp} {s : Shared} {Q : List Value → Shared → Prop} (h : wpAny (model pw w) A t (fun vs s' => OutL w g c vs ds H' s') Ef s) (k : ∀ vs p φ s', Wd w g ⟨p, φ, H', s'⟩ → Go [] c ⟨p, φ, H', s'⟩ → VDs w p φ vs ds → Q vs s') : wpAny (model pw w) A t Q Ef s :=
  wpOut h fun _ _ o => let ⟨W, G, V⟩ := o; k _ _ _ _ W G V
theorem ex_Constant (W : Wd w g c) {k : Const} {x1 : Nat} {pos : Pos} {f : F} (h : constD k = some f) : wpAny (model pw w) A (eval (.Constant k x1 pos) env) (fun v s' => Out w g c v (.f f) c.H s') Ef c.s := by
  cases k with
  | none => cases h; exact fun _ _ _ => Out.id W (.f .none)
  | bool b => cases h; exact fun _ _ _ => Out.id W (.f (.bool _))
  | int i => cases h; exact wpAny_Constant_int (Out.tok W _ (.f (.int _ _)))
  | str x => cases h; exact Calls.Constant_str (Out.tok W _ (.f (.str _ _)))
  | _ => exact nn h
theorem nameOk_ok {x : Str} (ho : nameOk x = true) : (x == ("__debug__" : Str)) = false ∧ (x == ("__classdict__" : Str)) = false := by
  simpa only [nameOk, Bool.and_eq_true, Bool.not_eq_true'] using ho
theorem ex_Name (GD : Gd w g T mg mb) (W : Wd w g c) (F : Fm w env sc ρ c) {x : Str} {pos : Pos} {d : D} (ho : nameOk x = true) (h : var T sc ρ x = some d) :
    wpAny (model pw w) A (eval (.Name x pos) env) (fun v s' => Out w g c v d c.H s') Ef c.s :=
  wpAny_Name (var_ok GD W F h (nameOk_ok ho).1 (nameOk_ok ho).2 fun v V => Out.id W V) (nameOk_ok ho).1
theorem star_plain {e : Expr} (h : isStar e = false) (rest : List Expr) : starEach (e :: rest) env = (false, eval e env) :: starEach rest env := by
  cases e with
  | Starred => cases h
  | _ => rfl
/-- how an evaluation of parts goes -/
noncomputable def ExOk (w : World) (g : Heap) (A : Around) (env : Env) (sc : Sc) (ρ : Rho) (f : Expr → Hp → Option (D × Hp)) : Prop := ∀ (c : Cf) e d H', Wd w g c → Fm w env sc ρ c → f e c.H = some (d, H') → wpAny (model pw w) A (eval e env) (fun v s' => Out w g c v d H' s') Ef c.s
theorem mapE_ok {pos : Pos} {f : Expr → Hp → Option (D × Hp)} (hf : ExOk w g A env sc ρ f) (es : List Expr) : ∀ {c : Cf} {ds : List D} {H' : Hp}, Wd w g c → Fm w env sc ρ c → mapE f es c.H = some (ds, H') →
    wpAny (model pw w) A (spliced (backTo pos (starEach es env))) (fun vs s' => OutL w g c vs ds H' s') Ef c.s := by
  induction es with
  | nil => intro c ds H' W F h; cases h; exact args_nil ⟨W, Go.refl, .nil⟩
  | cons e r ih =>
    intro c ds H' W F h
    refine i0 h fun q h => bE h fun d H1 h1 h => m1 (P := fun y => ∀ ds H', (ds, H') = y → wpAny (model pw w) A (spliced (backTo pos (starEach (e :: r) env))) (fun vs s' => OutL w g c vs ds H' s') Ef c.s) h (fun x h2 ds H' e' => ?_) ds H' rfl
    cases e'
    exact args_cons (wpK (hf c e d H1 W F h1) fun v p φ s1 W1 G1 V1 => wpL (ih W1 (F.go G1) h2) fun vs p2 φ2 s2 W2 G2 V2 => ⟨W2, G1.trans G2, .cons (V1.mono G2.ps G2.fs) V2⟩) (star_plain ((Bool.not_eq_true _).mp q) r)
theorem mapE_len {f : Expr → Hp → Option (D × Hp)} (es : List Expr) : ∀ {H H' : Hp} {ds : List D}, mapE f es H = some (ds, H') → ds.length = es.length := by
  induction es with
  | nil => intro H H' ds h; cases h; rfl
  | cons e r ih =>
    intro H H' ds h
    refine i0 h fun q h => bE h fun d H1 h1 h => m1 (P := fun y => ∀ ds, (ds, H') = y → ds.length = (e :: r).length) h (fun x h2 ds e' => ?_) ds rfl
    cases e'
    exact congrArg (· + 1) (ih h2)
theorem RS.exOk (RS : RS w g n R) (hr : Rm A n) : ExOk w g A env sc ρ fun e H => R.ex sc e ρ H := fun c e d H' W F h => RS.ex A env sc e ρ c d H' hr W F h
theorem exF_ok (RS : RS w g n R) (hr : Rm A n) : ExOk w g A env sc ρ fun e H => exF R sc e ρ H := fun c e d H' W F h =>
  bE h fun x H1 h1 h => m1 (P := fun y => ∀ d H', (d, H') = y → wpAny (model pw w) A (eval e env) (fun v s' => Out w g c v d H' s') Ef c.s) h (fun y h2 d H' e' => by
    cases e'
    exact wpK (RS.ex A env sc e ρ c x H1 hr W F h1) fun v p φ s1 W1 G1 V1 => let ⟨W2, G2, V2⟩ := fz_ok _ _ _ _ _ v W1 V1 h2; ⟨W2, G1.trans G2, .f V2⟩) d H' rfl
theorem small_len {vs : List Value} {ds : List D} {p : Pm} {φ : Phi} {f : Expr → Hp → Option (D × Hp)} {es : List Expr} {H H' : Hp} (V : VDs w p φ vs ds) (h : mapE f es H = some (ds, H')) (q : es.length ≤ lim) : vs.length ≤ sizeLine := by
  rw [V.length, mapE_len es h, sizeLine_eq]; have hl : lim = 100000 := rfl; omega
theorem exV_ok (RS : RS w g n R) (hr : Rm A n) : ExOk w g A env sc ρ fun e H => exV R sc e ρ H := fun c e d H' W F h => by
  dsimp only [exV] at h
  cases q : listE e with
  | none => rw [q] at h; exact RS.ex A env sc e ρ c d H' hr W F h
  | some es =>
    rw [q] at h
    obtain ⟨p, rfl⟩ := listE_eq q
    refine i1 h fun q h => bE h fun ds H1 h1 h => m1 (P := fun y => ∀ d H', (d, H') = y → wpAny (model pw w) A (eval (.List es p) env) (fun v s' => Out w g c v d H' s') Ef c.s) h (fun l h2 d H' e' => ?_) d H' rfl
    cases e'
    exact wpAny_List_spliced (wpL (mapE_ok (exF_ok RS hr) es W F h1) fun vs p φ s1 W1 G1 V1 => ⟨small_len V1 h1 q, (Out.pushL W1 (V1.ofF h2)).after G1⟩)
theorem exs_ok (RS : RS w g n R) (hr : Rm A n) {pos : Pos} (es : List Expr) {c : Cf} {ds : List D} {H' : Hp} (W : Wd w g c) (F : Fm w env sc ρ c) (h : exs R sc ρ es c.H = some (ds, H')) :
    wpAny (model pw w) A (spliced (backTo pos (starEach es env))) (fun vs s' => OutL w g c vs ds H' s') Ef c.s := mapE_ok (RS.exOk hr) es W F h
theorem exVs_ok (RS : RS w g n R) (hr : Rm A n) {pos : Pos} (es : List Expr) {c : Cf} {ds : List D} {H' : Hp} (W : Wd w g c) (F : Fm w env sc ρ c) (h : exVs R sc ρ es c.H = some (ds, H')) :
    wpAny (model pw w) A (spliced (backTo pos (starEach es env))) (fun vs s' => OutL w g c vs ds H' s') Ef c.s := mapE_ok (exV_ok RS hr) es W F h
/-- the outcome of a pair -/
theorem mP {α : Type} {x : Option α} {f : α → D × Hp} {d : D} {H' : Hp} {P : D → Hp → Prop} (h : x.map f = some (d, H')) (k : ∀ a, x = some a → P (f a).1 (f a).2) : P d H' :=
  m1 (P := fun y => P y.1 y.2) h k
theorem ex_BinOp (RS : RS w g n R) (hr : Rm A n) (W : Wd w g c) (F : Fm w env sc ρ c) {l r : Expr} {op : Operator} {pos : Pos} {d : D} {H' : Hp} (h : binE R sc l op r ρ c.H = some (d, H')) :
    wpAny (model pw w) A (eval (.BinOp l op r pos) env) (fun v s' => Out w g c v d H' s') Ef c.s :=
  bE h fun a H1 h1 h => bE h fun b H2 h2 h => mP (P := fun d H' => wpAny (model pw w) A (eval (.BinOp l op r pos) env) (fun v s' => Out w g c v d H' s') Ef c.s) h fun d h3 =>
    wpAny_BinOp (wpK (exV_ok RS hr c l a H1 W F h1) fun va p1 φ1 s1 W1 G1 V1 => wpK (exV_ok RS hr _ r b H2 W1 (F.go G1) h2) fun vb p2 φ2 s2 W2 G2 V2 => wpA (G1.trans G2) (bin_ok W2 (V1.mono G2.ps G2.fs) V2 h3))
theorem truthy_ok (W : Wd w g c) {v : Value} {d : D} {b : Bool} (V : VD w c.p c.φ v d) (h : truthy d = some b) {Q : Bool → Shared → Prop} {E : Value → Shared → Prop} (hq : Q b c.s) : wpAny (model pw w) A (PySem.truthy v) Q E c.s := by
  obtain ⟨x, V, h⟩ := dFp V h
  have V := V.inv
  cases x with
  | none => cases h; obtain rfl : v = .none := V; exact PyProof.Rows.truthy_none hq
  | bool b => cases h; obtain rfl : v = .bool _ := V; exact wpAny_truthy_bool hq
  | _ => exact nn h
theorem ex_Un (RS : RS w g n R) (hr : Rm A n) (W : Wd w g c) (F : Fm w env sc ρ c) {op : UnaryOp} {x : Expr} {pos : Pos} {d : D} {H' : Hp} (h : unE R sc op x ρ c.H = some (d, H')) :
    wpAny (model pw w) A (eval (.UnaryOp op x pos) env) (fun v s' => Out w g c v d H' s') Ef c.s :=
  bE h fun a H1 h1 h => by
    cases op with
    | USub => exact mP (P := fun d H' => wpAny (model pw w) A (eval (.UnaryOp .USub x pos) env) (fun v s' => Out w g c v d H' s') Ef c.s) h fun m h2 => UnaryOp_ (wpK (RS.ex A env sc x ρ c _ H1 hr W F h1) fun v p φ s1 W1 G1 V1 => by
        obtain ⟨t, rfl⟩ := dInt_ok V1 h2
        exact neg_int ((Out.tok W1 _ (.f (.int _ _))).after G1))
    | Not => exact mP (P := fun d H' => wpAny (model pw w) A (eval (.UnaryOp .Not x pos) env) (fun v s' => Out w g c v d H' s') Ef c.s) h fun m h2 => UnaryOp_ (wpK (RS.ex A env sc x ρ c _ H1 hr W F h1) fun v p φ s1 W1 G1 V1 => not_of (truthy_ok W1 V1 h2 ((Out.id W1 (.f (.bool _))).after G1)))
    | _ => exact nn h
theorem ex_BoolOp (RS : RS w g n R) (hr : Rm A n) {op : BoolOp} {pos : Pos} (es : List Expr) : ∀ {c : Cf} {d : D} {H' : Hp}, Wd w g c → Fm w env sc ρ c → boolV R sc ρ op es c.H = some (d, H') →
    wpAny (model pw w) A (eval (.BoolOp op es pos) env) (fun v s' => Out w g c v d H' s') Ef c.s := by
  induction es with
  | nil => intro c d H' W F h; exact nn h
  | cons e r ih =>
    intro c d H' W F h
    refine bE h fun a H1 h1 h => ?_
    have step := RS.ex A env sc e ρ c a H1 hr W F h1
    cases r with
    | nil => cases h; exact BoolOp_one step
    | cons e2 r =>
      refine b1 h fun b h3 h => ?_
      cases op with
      | And =>
        refine BoolOp_and (wpK step fun v p φ s1 W1 G1 V1 => truthy_ok W1 V1 h3 ?_)
        cases b with
        | true => exact wpA G1 (ih W1 (F.go G1) h)
        | false => cases h; exact (Out.id W1 V1).after G1
      | Or =>
        refine BoolOp_or (wpK step fun v p φ s1 W1 G1 V1 => truthy_ok W1 V1 h3 ?_)
        cases b with
        | false => exact wpA G1 (ih W1 (F.go G1) h)
        | true => cases h; exact (Out.id W1 V1).after G1
theorem ts_BoolOp (RS : RS w g n R) (hr : Rm A n) {op : BoolOp} {pos : Pos} {whole : Sem Value} (es : List Expr) : ∀ {c : Cf} {b : Bool} {H' : Hp}, Wd w g c → Fm w env sc ρ c → boolT R sc ρ op es c.H = some (b, H') →
    wpAny (model pw w) A (isTrue (.BoolOp op es pos) env whole) (fun v s' => OutB w g c b H' s' v) Ef c.s := by
  induction es with
  | nil =>
    intro c d H' W F h
    cases h
    cases op with
    | And => exact isTrue_and_nil (OutB.id W)
    | Or => exact isTrue_or_nil (OutB.id W)
  | cons e r ih =>
    intro c d H' W F h
    refine bE h fun b H1 h1 h => ?_
    have step := RS.ts A env sc e ρ c b H1 hr W F h1
    cases op with
    | And =>
      refine isTrue_and (wpB step fun p φ s1 W1 G1 => ?_)
      cases b with
      | true => exact wpAB G1 (ih W1 (F.go G1) h)
      | false => cases h; exact (OutB.id W1).after G1
    | Or =>
      refine isTrue_or (wpB step fun p φ s1 W1 G1 => ?_)
      cases b with
      | false => exact wpAB G1 (ih W1 (F.go G1) h)
      | true => cases h; exact (OutB.id W1).after G1
theorem ex_IfExp (RS : RS w g n R) (hr : Rm A n) (W : Wd w g c) (F : Fm w env sc ρ c) {t a b : Expr} {pos : Pos} {d : D} {H' : Hp} (h : ((R.ts sc t ρ c.H).bind fun x => R.ex sc (cond x.1 a b) ρ x.2) = some (d, H')) :
    wpAny (model pw w) A (eval (.IfExp t a b pos) env) (fun v s' => Out w g c v d H' s') Ef c.s :=
  bE h fun b' H1 h1 h => IfExp_ (wpB (RS.ts A env sc t ρ c b' H1 hr W F h1) fun p φ s1 W1 G1 => by
    cases b' with
    | true => exact wpA G1 (RS.ex A env sc a ρ _ d H' hr W1 (F.go G1) h)
    | false => exact wpA G1 (RS.ex A env sc b ρ _ d H' hr W1 (F.go G1) h))
theorem mkTup_ok {p : Pm} {φ : Phi} {a : Addr} {o : Obj} {vs : List Value} {ds : List D} (ho : p a o) (i : isT o vs) (V : VDs w p φ vs ds) : VD w p φ (.ref a) (mkTup ds) := by
  unfold mkTup
  cases e : toFs ds with
  | some fs => exact .f (.tup ho i (V.ofF e))
  | none => exact .tup ho i V
theorem ex_Tuple (RS : RS w g n R) (hr : Rm A n) (W : Wd w g c) (F : Fm w env sc ρ c) {es : List Expr} {x1} {pos : Pos} {d : D} {H' : Hp} (h : (if es.length ≤ lim then (exs R sc ρ es c.H).map fun x => (mkTup x.1, x.2) else none) = some (d, H')) :
    wpAny (model pw w) A (eval (.Tuple es x1 pos) env) (fun v s' => Out w g c v d H' s') Ef c.s :=
  i1 h fun hl h => mP (P := fun d H' => wpAny (model pw w) A (eval (.Tuple es x1 pos) env) (fun v s' => Out w g c v d H' s') Ef c.s) h fun x h =>
    wpAny_Tuple_spliced (wpL (exs_ok RS hr es W F h) fun vs p φ s1 W1 G1 V1 => ⟨small_len V1 h hl,
      let ⟨W2, G2⟩ := W1.grown (s' := { s1 with heap := s1.heap.push { cls := .type "tuple", data := .seq vs.toArray } }) (fun _ _ h => Heap.get?_push_of_some _ h) rfl (Heap.get?_push_size _ rfl) (noAl _)
      ⟨W2, G1.trans G2, mkTup_ok addP_r isT.new (V1.mono addP_l (List.prefix_refl _))⟩⟩)
theorem ex_List (RS : RS w g n R) (hr : Rm A n) (W : Wd w g c) (F : Fm w env sc ρ c) {es : List Expr} {pos : Pos} {d : D} {H' : Hp} (h : (if es.length ≤ lim then (exs R sc ρ es c.H).map fun x => (D.own x.2.length, x.2 ++ [O.lst x.1]) else none) = some (d, H')) :
    wpAny (model pw w) A (eval (.List es pos) env) (fun v s' => Out w g c v d H' s') Ef c.s :=
  i1 h fun hl h => mP (P := fun d H' => wpAny (model pw w) A (eval (.List es pos) env) (fun v s' => Out w g c v d H' s') Ef c.s) h fun x h =>
    wpAny_List_spliced (wpL (exs_ok RS hr es W F h) fun vs p φ s1 W1 G1 V1 => ⟨small_len V1 h hl, (Out.pushOwn W1 V1).after G1⟩)
end
end Mine

end
noncomputable section
set_option Elab.async false
set_option maxRecDepth 100000
set_option maxHeartbeats 1000000
set_option linter.unusedVariables false
/-! comparisons in chains -/
open PySem PySem.W PySem.Spec PySem.Calls PyProof.Rows
open PySem.SeqAt
namespace Mine
section
variable {w : World} {g : Heap} {c : Cf} {A : Around} {env : Env} {sc : Sc} {ρ : Rho} {T : Tabs} {R : Rec} {n : Nat}
theorem isNil_ok {p : Pm} {φ : Phi} {v : Value} {d : D} (V : VD w p φ v d) (h : isNil d = true) : ∃ a o, v = .ref a ∧ p a o ∧ isL o [] := by
  unfold isNil at h
  cases q : (unF d).bind fLst with
  | none => rw [q] at h; cases h
  | some l =>
    rw [q] at h
    obtain ⟨x, V, e⟩ := dFp V q
    cases l with
    | cons _ _ => cases h
    | nil =>
      rw [fLst_eq e] at V
      obtain ⟨a, o, vs, rfl, h1, h2, h3⟩ := V.inv
      exact ⟨a, o, rfl, h1, (show vs = [] from h3.inv) ▸ h2⟩
theorem eqNil_ok {s : Shared} {a b : Addr} {o o2 : Obj} {vs : List Value} {l : List D} {p : Pm} {φ : Phi} (ha : s.heap.get? a = some o) (il : isL o vs) (V : VDs w p φ vs l) (hb : s.heap.get? b = some o2) (ib : isL o2 []) (hu : A.units < cLine) :
    RcAt A s (.ref a) (.ref b) l.isEmpty ∧ RcNeAt A s (.ref a) (.ref b) (!l.isEmpty) := by
  cases l with
  | nil =>
    obtain rfl : vs = [] := V.inv
    exact ⟨RcAt.lists (A := A) (e := fun _ => true) (il.isList ha) (ib.isList hb) rfl hu fun j h1 => absurd h1 (Nat.not_lt_zero _), RcNeAt.lists (A := A) (e := fun _ => true) (il.isList ha) (ib.isList hb) rfl hu fun j h1 => absurd h1 (Nat.not_lt_zero _)⟩
  | cons h r =>
    obtain ⟨v, us, rfl, _⟩ := V.inv
    exact ⟨RcAt.lists_lengths (il.isList ha) (ib.isList hb) (by simp) hu, RcNeAt.lists_lengths (il.isList ha) (ib.isList hb) (by simp) hu⟩
theorem cmpEq_ok (W : Wd w g c) (hu : A.units + 10 < cLine) {a b : D} {va vb : Value} {r : Bool} (Va : VD w c.p c.φ va a) (Vb : VD w c.p c.φ vb b) (h : cmpEq a b c.H = some r) : RcAt A c.s va vb r ∧ RcNeAt A c.s va vb (!r) :=
  i2 h (fun q h => m1 (P := fun r => RcAt A c.s va vb r ∧ RcNeAt A c.s va vb (!r)) h fun l hl => by
    obtain ⟨a', o, vs, rfl, ha, il, Vl⟩ := asLst_ok W Va hl
    obtain ⟨b', o2, rfl, hb, ib⟩ := isNil_ok Vb q
    exact eqNil_ok ha il Vl (W.sub _ _ hb) ib (by omega)) fun _ h => b1 h fun x hx h => b1 h fun y hy h =>
    let ⟨r1, _, r2⟩ := eqN_ok (s := c.s) 3 A (by omega) va vb x y r (frozen_ok W Va hx) (frozen_ok W Vb hy) h; ⟨r1, r2⟩
theorem isNoneD_ok {p : Pm} {φ : Phi} {v : Value} {d : D} {b : Bool} (V : VD w p φ v d) (h : isNoneD d = some b) : plainIs v .none = true ∧ (v == .none) = b := by
  cases d with
  | f x =>
    refine i0 h fun q h => ?_
    cases h
    have V := V.uf.inv
    cases x with
    | none => obtain rfl : v = .none := V; exact ⟨rfl, rfl⟩
    | bool b => obtain rfl : v = .bool b := V; exact ⟨rfl, rfl⟩
    | int i => obtain ⟨t, rfl⟩ := V; exact ⟨rfl, rfl⟩
    | str i => obtain ⟨t, rfl⟩ := V; exact ⟨rfl, rfl⟩
    | glob u => exact absurd rfl q
    | rng x y => obtain ⟨a, o, rfl, _⟩ := V; exact ⟨rfl, rfl⟩
    | tup l => obtain ⟨a, o, _, rfl, _⟩ := V; exact ⟨rfl, rfl⟩
    | lst l => obtain ⟨a, o, _, rfl, _⟩ := V; exact ⟨rfl, rfl⟩
    | dct l => obtain ⟨a, o, _, rfl, _⟩ := V; exact ⟨rfl, rfl⟩
    | ins l => obtain ⟨a, o, _, _, _, rfl, _⟩ := V; exact ⟨rfl, rfl⟩
  | own k => cases h; obtain ⟨x, rfl, _⟩ := V.inv; exact ⟨rfl, rfl⟩
  | tup l => cases h; obtain ⟨a, o, vs, rfl, _⟩ := V.inv; exact ⟨rfl, rfl⟩
theorem cmpIn_ok (W : Wd w g c) (hu : A.units + 10 < cLine) {a b : D} {va vb : Value} {r : Bool} (Va : VD w c.p c.φ va a) (Vb : VD w c.p c.φ vb b) (h : cmpIn a b c.H = some r) : InAt w A c.s va vb r := by
  unfold cmpIn at h
  cases q : (unF b).bind fTup with
  | some fs =>
    rw [q] at h
    obtain ⟨x, V, e⟩ := dFp Vb q
    rw [fTup_eq e] at V
    obtain ⟨ba, bo, bv, rfl, b1, b2, b3⟩ := V.inv
    refine Mine.b1 h fun x hx h => i1 h fun _ h => ?_
    obtain ⟨h1, h2⟩ := mem_ok (s := c.s) A.in1 (frozen_ok W Va hx) fs (b3.mono W.sub) h
    have IT := b2.isTup (W.sub _ _ b1)
    have e2 : bv.toArray.any (eqV va) = r := (List.any_toArray ..).trans h2
    refine fun E Q => ⟨fun hq => in_tupleAt (eqV va) IT (fun y hy => h1 y (List.mem_toArray.mp hy)) ?_, fun hq => notIn_tupleAt (eqV va) IT (fun y hy => h1 y (List.mem_toArray.mp hy)) ?_⟩
    · rw [e2]; exact hq c.s.toks
    · rw [e2]; exact hq c.s.toks
  | none =>
    rw [q] at h
    refine Mine.b1 h fun es he h => Mine.b1 h fun k hk h => i1 h fun q h => ?_
    cases h
    obtain ⟨b', o, kvs, rfl, hb, hs, hd, V⟩ := asDct_ok W Vb he
    exact inD_ok W (by omega) hb hs hd V q (asKey_ok Va hk)
theorem cmp_ok (W : Wd w g c) (hu : A.units + 10 < cLine) {op : CmpOp} {a b : D} {va vb : Value} {r : Bool} (Va : VD w c.p c.φ va a) (Vb : VD w c.p c.φ vb b) (h : cmp op a b c.H = some r) {E : Value → Shared → Prop} {Q : Value → Shared → Prop}
    (hq : ∀ t, Q (.bool r) { c.s with toks := t }) : wpAny (model pw w) A (compareOp op va vb) Q E c.s := by
  have hq0 : Q (.bool r) c.s := hq c.s.toks
  have ord : ∀ {op}, cmpOrd op a b c.H = some r → OrdAt A c.s op va vb r := fun h => b1 h fun x hx h => b1 h fun y hy h => ordN_ok 3 A (by omega) va vb x y r (frozen_ok W Va hx) (frozen_ok W Vb hy) h
  cases op with
  | Eq => exact (cmpEq_ok W hu Va Vb h).1 pw w E Q hq0
  | NotEq => exact m1 (P := fun r => Q (.bool r) c.s → wpAny (model pw w) A (compareOp .NotEq va vb) Q E c.s) h (fun z hz hq0 => (cmpEq_ok W hu Va Vb hz).2 pw w E Q hq0) hq0
  | Lt => exact ord h pw w E Q hq0
  | LtE => exact ord h pw w E Q hq0
  | Gt => exact ord h pw w E Q hq0
  | GtE =>
    exact b1 h fun x hx h => m1 (P := fun r => Q (.bool r) c.s → wpAny (model pw w) A (compareOp .GtE va vb) Q E c.s) h (fun y hy hq0 => by
      obtain ⟨t, rfl⟩ := dInt_ok Va hx; obtain ⟨u, rfl⟩ := dInt_ok Vb hy
      exact ge_int hq0) hq0
  | Is =>
    refine i1 h fun q h => ?_
    obtain ⟨h1, h2⟩ := isNoneD_ok Va h
    rw [dNone_ok Vb q]
    exact wpAny_is_plain h1 (h2 ▸ hq0)
  | IsNot =>
    exact m1 (P := fun r => Q (.bool r) c.s → wpAny (model pw w) A (compareOp .IsNot va vb) Q E c.s) h (fun z hz hq0 => i1 hz fun q h => by
      obtain ⟨h1, h2⟩ := isNoneD_ok Va h
      rw [dNone_ok Vb q]
      exact wpAny_isNot_plain h1 (h2 ▸ hq0)) hq0
  | In => exact (cmpIn_ok W hu Va Vb h E Q).1 hq
  | NotIn => exact m1 (P := fun r => (∀ t, Q (.bool r) { c.s with toks := t }) → wpAny (model pw w) A (compareOp .NotIn va vb) Q E c.s) h (fun z hz hq => (cmpIn_ok W hu Va Vb hz E Q).2 hq) hq

theorem Rm.room10 (h : Rm A n) : A.units + 10 < cLine := by have := h.2.1; show A.units + 10 < 9900; omega
theorem OutB.tok (W : Wd w g c) {b : Bool} (t : Tok) : OutB w g c b c.H { c.s with toks := t } b := ⟨(W.tok t).1, (W.tok t).2⟩
noncomputable def ChainOk (w : World) (g : Heap) (A : Around) (env : Env) (pos : Pos) (va : Value) (ops : List CmpOp) (es : List Expr) (c : Cf) (b : Bool) (H' : Hp) : Prop :=
  wpAny (model pw w) A (compareChain pos va ops (evalEach es env)) (fun v s' => Out w g c v (.f (.bool b)) H' s') Ef c.s ∧ wpAny (model pw w) A (testChain pos va ops (evalEach es env)) (fun v s' => OutB w g c b H' s' v) Ef c.s
theorem chain_ok (RS : RS w g n R) (hr : Rm A n) {pos : Pos} (ops : List CmpOp) : ∀ (es : List Expr) {c : Cf} {a : D} {va : Value} {b : Bool} {H' : Hp}, ops.length = es.length → Wd w g c → Fm w env sc ρ c → VD w c.p c.φ va a → chain R sc ρ a ops es c.H = some (b, H') → ChainOk w g A env pos va ops es c b H' := by
  induction ops with
  | nil => intro es c a va b H' hl W F Va h; exact nn h
  | cons op ops ih =>
    intro es c a va b H' hl W F Va h
    cases es with
    | nil => exact nn h
    | cons e es =>
      have hl := Nat.succ.inj hl
      refine bE h fun d H1 h1 h => b1 h fun b' h3 h => ?_
      have step := exV_ok RS hr c e d H1 W F h1
      cases ops with
      | nil =>
        cases h
        obtain rfl : es = [] := List.eq_nil_of_length_eq_zero hl.symm
        exact ⟨chain_last (wpK step fun v p φ s1 W1 G1 V1 => cmp_ok W1 hr.room10 (Va.mono G1.ps G1.fs) V1 h3 fun t => (Out.tok W1 t (.f (.bool _))).after G1),
          test_last (wpK step fun v p φ s1 W1 G1 V1 => cmp_ok W1 hr.room10 (Va.mono G1.ps G1.fs) V1 h3 fun t => wpAny_truthy_bool ((OutB.tok W1 t).after G1))⟩
      | cons op' ops =>
        cases es with
        | nil => cases hl
        | cons e' es =>
          have go : ∀ {v : Value} {p φ s1}, Wd w g ⟨p, φ, H1, s1⟩ → Go [] c ⟨p, φ, H1, s1⟩ → VD w p φ v d → ∀ t, b' = true → ChainOk w g A env pos v (op' :: ops) (e' :: es) ⟨p, φ, H1, { s1 with toks := t }⟩ b H' ∧ Go [] c ⟨p, φ, H1, { s1 with toks := t }⟩ := fun W1 G1 V1 t e => by
            subst e
            obtain ⟨W2, G2⟩ := W1.tok t
            exact ⟨ih _ hl W2 (F.go (G1.trans G2)) V1 h, G1.trans G2⟩
          refine ⟨chain_link (wpK step fun v p φ s1 W1 G1 V1 => cmp_ok W1 hr.room10 (Va.mono G1.ps G1.fs) V1 h3 fun t => wpAny_truthy_bool ?_), test_link (wpK step fun v p φ s1 W1 G1 V1 => cmp_ok W1 hr.room10 (Va.mono G1.ps G1.fs) V1 h3 fun t => wpAny_truthy_bool ?_)⟩
          · cases b' with
            | true => obtain ⟨r, G⟩ := go W1 G1 V1 t rfl; exact wpA G r.1
            | false => cases h; exact (Out.tok W1 t (.f (.bool _))).after G1
          · cases b' with
            | true => obtain ⟨r, G⟩ := go W1 G1 V1 t rfl; exact wpAB G r.2
            | false => cases h; exact (OutB.tok W1 t).after G1
theorem ex_Compare (RS : RS w g n R) (hr : Rm A n) (W : Wd w g c) (F : Fm w env sc ρ c) {l : Expr} {ops : List CmpOp} {es : List Expr} {pos : Pos} {b : Bool} {H' : Hp} (h : chainE R sc l ops es ρ c.H = some (b, H')) :
    wpAny (model pw w) A (eval (.Compare l ops es pos) env) (fun v s' => Out w g c v (.f (.bool b)) H' s') Ef c.s ∧
    ∀ whole, wpAny (model pw w) A (isTrue (.Compare l ops es pos) env whole) (fun v s' => OutB w g c b H' s' v) Ef c.s :=
  i0 h fun hm h => bE h fun a H1 h1 h => by
    simp only [Bool.or_eq_true, not_or, Bool.not_eq_true, Bool.not_eq_false', beq_iff_eq] at hm
    have step := exV_ok RS hr c l a H1 W F h1
    refine ⟨?_, fun whole => ?_⟩
    · show wpAny _ _ (do compareChain pos (← eval l env) ops (markedEach ops es (evalEach es env))) _ _ _
      rw [markedEach_of_false _ _ _ hm.1]
      exact wpAny_bind (wpK step fun v p φ s1 W1 G1 V1 => wpA G1 (chain_ok RS hr ops es hm.2 W1 (F.go G1) V1 h).1)
    · show wpAny _ _ (do testChain pos (← eval l env) ops (markedEach ops es (evalEach es env))) _ _ _
      rw [markedEach_of_false _ _ _ hm.1]
      exact wpAny_bind (wpK step fun v p φ s1 W1 G1 V1 => wpAB G1 (chain_ok RS hr ops es hm.2 W1 (F.go G1) V1 h).2)
end
end Mine

end
noncomputable section
set_option Elab.async false
set_option maxRecDepth 100000
set_option maxHeartbeats 1000000
set_option linter.unusedVariables false
/-! displays of dicts -/
open PySem PySem.W PySem.Spec PySem.Calls PyProof.Rows
open PySem.SeqAt
namespace Mine
section
variable {w : World} {g : Heap} {c : Cf} {A : Around} {env : Env} {sc : Sc} {ρ : Rho} {T : Tabs} {R : Rec} {n : Nat}

/-! ### stores into dicts, on the side of the values -/
noncomputable def setV (es : List (Key × Value)) (k : Key) (v : Value) : List (Key × Value) := if es.any (fun e => e.1 == k) then es.map fun e => if e.1 == k then (e.1, v) else e else es ++ [(k, v)]
theorem vkds_append {p : Pm} {φ : Phi} {a : List (Key × Value)} {b : List (Key × D)} (V : VKDs w p φ a b) {a' : List (Key × Value)} {b' : List (Key × D)} (V' : VKDs w p φ a' b') : VKDs w p φ (a ++ a') (b ++ b') := by
  induction V with
  | nil => exact V'
  | cons h _ ih => exact .cons h ih
theorem vkds_map {p : Pm} {φ : Phi} {kvs : List (Key × Value)} {es : List (Key × D)} (V : VKDs w p φ kvs es) {k : Key} {v : Value} {d : D} (h : VD w p φ v d) : VKDs w p φ (kvs.map fun e => if e.1 == k then (e.1, v) else e) (es.map fun e => if e.1 == k then (e.1, d) else e) := by
  induction V with
  | nil => exact .nil
  | @cons k' v' d' vs ds h' r ih =>
    rw [List.map_cons, List.map_cons]
    by_cases q : (k' == k) = true
    · rw [if_pos q, if_pos q]; exact .cons h ih
    · rw [if_neg q, if_neg q]; exact .cons h' ih
theorem vkds_set {p : Pm} {φ : Phi} {kvs : List (Key × Value)} {es : List (Key × D)} (V : VKDs w p φ kvs es) {k : Key} {v : Value} {d : D} (h : VD w p φ v d) : VKDs w p φ (setV kvs k v) (setL es k d) := by
  unfold setV setL
  rw [vkds_any V (· == k)]
  by_cases q : (es.any fun e => e.1 == k) = true
  · rw [if_pos q, if_pos q]; exact vkds_map V h
  · rw [if_neg q, if_neg q]; exact vkds_append V (.cons h .nil)
theorem stored_gen {κ : Type} [DecidableEq κ] (f : κ → Key) (hf : ∀ a b, f a = f b → a = b) (acc : List (κ × Value)) (k : κ) (v : Value) :
    (stored acc k v).map (fun x => (f x.1, x.2)) = setV (acc.map fun x => (f x.1, x.2)) (f k) v := by
  unfold stored setV
  rw [List.any_map]
  simp only [Function.comp_def, beq_key hf]
  split
  · rw [List.map_map, List.map_map]
    apply List.map_congr_left
    intro x _
    simp only [Function.comp_def, beq_key hf]
    by_cases h : x.1 = k
    · simp [h]
    · simp [h]
  · rw [List.map_append]; rfl
theorem stored_str (acc : List (Str × Value)) (k : Str) (v : Value) : (stored acc k v).map kS = setV (acc.map kS) (.s k) v := stored_gen Key.s (fun _ _ e => by injection e) acc k v
theorem stored_int (acc : List (Int × Value)) (k : Int) (v : Value) : (stored acc k v).map kI = setV (acc.map kI) (.i k) v := stored_gen Key.i (fun _ _ e => by injection e) acc k v
noncomputable abbrev kD (x : Str × D) : Key × D := (.s x.1, x.2)
theorem merged_ok {p : Pm} {φ : Phi} (ws : List (Str × Value)) : ∀ {kvs : List (Str × D)} {acc : List (Str × Value)} {es : List (Key × D)}, VKDs w p φ (acc.map kS) es → VKDs w p φ (ws.map kS) (kvs.map kD) →
    VKDs w p φ ((merged acc ws).map kS) (kvs.foldl (fun es p => setL es (.s p.1) p.2) es) := by
  induction ws with
  | nil =>
    intro kvs acc es V V'
    rw [show kvs = [] from List.eq_nil_of_length_eq_zero (by have := vkds_len V'; rw [List.length_map, List.length_map] at this; exact this.symm)]
    exact V
  | cons x ws ih =>
    intro kvs acc es V V'
    cases kvs with
    | nil => have := vkds_len V'; cases this
    | cons y kvs =>
      have go : ∀ {l : List (Key × Value)} {m : List (Key × D)}, VKDs w p φ l m → l = (x :: ws).map kS → m = (y :: kvs).map kD → VKDs w p φ ((merged acc (x :: ws)).map kS) ((y :: kvs).foldl (fun es p => setL es (.s p.1) p.2) es) := fun V' e1 e2 => by
        cases V' with
        | nil => cases e1
        | cons h r =>
          injection e1 with a1 a2
          injection e2 with b1 b2
          injection a1 with a3 a4
          injection b1 with b3 b4
          injection a3.symm.trans b3 with e
          subst a2 b2 a4 b4
          refine ih (acc := stored acc x.1 x.2) (es := setL es (.s y.1) y.2) ?_ r
          rw [stored_str, e]; exact vkds_set V h
      exact go V' rfl rfl

/-! ### a display of a dict -/
theorem dpairs_shape (ks : List (Option Expr)) : ∀ (vs : List Expr) {H H' : Hp} {kvs : List (Str × D)}, dpairs R sc ρ ks vs H = some (kvs, H') → ks.all (·.isSome) = true ∧ ks.length = vs.length ∧ kvs.length = ks.length := by
  induction ks with
  | nil =>
    intro vs H H' kvs h
    refine i1 h fun q h => ?_
    cases h
    rw [List.isEmpty_iff.mp q]; exact ⟨rfl, rfl, rfl⟩
  | cons k ks ih =>
    intro vs H H' kvs h
    refine b1 h fun k' q h => b1 h fun v q2 h => bE h fun dk H1 h1 h => b1 h fun key hk h => bE h fun dv H2 h2 h => m1 (P := fun y => ∀ kvs, (kvs, H') = y → (k :: ks).all (·.isSome) = true ∧ (k :: ks).length = vs.length ∧ kvs.length = (k :: ks).length) h (fun z h3 kvs e => ?_) kvs rfl
    cases e
    subst q
    cases vs with
    | nil => exact nn q2
    | cons v vs =>
      obtain ⟨i1, i2, i3⟩ := ih vs h3
      exact ⟨i1, congrArg (· + 1) i2, congrArg (· + 1) i3⟩
inductive OutD (w : World) (g : Heap) (c : Cf) (l : List (Value × Value)) (kvs : List (Str × D)) (H' : Hp) (s' : Shared) : Prop
  | mk {p : Pm} {φ : Phi} {ws : List (Str × Value)} : Wd w g ⟨p, φ, H', s'⟩ → Go [] c ⟨p, φ, H', s'⟩ → Carries (PySem.strKind pw w) l ws → VKDs w p φ (ws.map kS) (kvs.map kD) → OutD w g c l kvs H' s'
theorem dpairs_ok (RS : RS w g n R) (hr : Rm A n) {pos : Pos} (ks : List (Option Expr)) : ∀ (vs : List Expr) {c : Cf} {kvs : List (Str × D)} {H' : Hp}, Wd w g c → Fm w env sc ρ c → dpairs R sc ρ ks vs c.H = some (kvs, H') →
    wpAny (model pw w) A (evalPairs (pairTrees ks vs env pos)) (fun l s' => OutD w g c l kvs H' s') Ef c.s := by
  induction ks with
  | nil =>
    intro vs c kvs H' W F h
    refine i1 h fun q h => ?_
    cases h
    rw [List.isEmpty_iff.mp q]; exact pairTrees_nil_walk (.mk (ws := []) W Go.refl trivial .nil)
  | cons k ks ih =>
    intro vs c kvs H' W F h
    refine b1 h fun k' q h => b1 h fun v q2 h => bE h fun dk H1 h1 h => b1 h fun key hk h => bE h fun dv H2 h2 h => m1 (P := fun y => ∀ kvs H', (kvs, H') = y → wpAny (model pw w) A (evalPairs (pairTrees (k :: ks) vs env pos)) (fun l s' => OutD w g c l kvs H' s') Ef c.s) h (fun z h3 kvs H' e => ?_) kvs H' rfl
    cases e
    subst q
    cases vs with
    | nil => exact nn q2
    | cons v vs =>
      cases q2
      refine pairTrees_cons_walk (wpK (RS.ex A env sc k' ρ c dk H1 hr W F h1) fun kv p1 φ1 s1 W1 G1 V1 => wpK (RS.ex A env sc v ρ _ dv H2 hr W1 (F.go G1) h2) fun vv p2 φ2 s2 W2 G2 V2 => wpOut (ih vs W2 (F.go (G1.trans G2)) h3) fun l s3 o => ?_)
      obtain ⟨x, Vk, e⟩ := dFp V1 hk
      rw [fStr_eq e] at Vk
      obtain ⟨t, rfl⟩ := Vk.inv
      obtain ⟨W3, G3, C3, V3⟩ := o
      exact .mk (ws := (key, vv) :: _) W3 ((G1.trans G2).trans G3) ⟨by simp [PySem.strKind, Value.isStrOf], rfl, C3⟩ (.cons (V2.mono G3.ps G3.fs) V3)
theorem dictO_of {κ : Type} [DecidableEq κ] {knd : KeyKind pw w κ} {h : Heap} {a : Addr} {l : List (κ × Value)} (d : h.DictOf knd a l) : ∃ o, h.get? a = some o ∧ DictO w knd o l :=
  let ⟨o, es, ep, e, r⟩ := d; ⟨o, e, es, ep, r⟩
noncomputable abbrev dObj : Obj := { cls := .type "dict", data := .dict #[] }
theorem dict_fin {c1 : Cf} (W : Wd w g c) (W1 : Wd w g c1) (G1 : Go [] c c1) {kvs : List (Str × D)} {o : Obj} {kv : List (Str × Value)} {s' : Shared} (ho : s'.heap.get? c.s.heap.objs.size = some o) (hd : DictO w (PySem.strKind pw w) o kv)
    (hk : ∀ a x, a ≠ c.s.heap.objs.size → c1.s.heap.get? a = some x → s'.heap.get? a = some x) (he : s' = { c1.s with heap := s'.heap, toks := s'.toks })
    (hp : ∀ o, ¬ c1.p c.s.heap.objs.size o) (hφ : ¬ inφ c1.φ c.s.heap.objs.size) (V : VKDs w c1.p c1.φ (kv.map kS) (kvs.foldl (fun es p => setL es (.s p.1) p.2) [])) :
    Out w g c (.ref c.s.heap.objs.size) (.own c1.H.length) (c1.H ++ [.dct (kvs.foldl (fun es p => setL es (.s p.1) p.2) [])]) s' := by
  have sys : (c.s.heap.objs.size == sysModules) = false := by
    have h112 := W.lvlt (.inl rfl); rw [beq_eq_false_iff_ne]; intro e; obtain ⟨_, e'⟩ := h112; exact absurd (Heap.lt_size e') (by rw [e]; decide)
  obtain ⟨W2, G2⟩ := Wd.own' W W1 G1 (s' := s') (x := (c.s.heap.objs.size, none)) (O := .dct (kvs.foldl (fun es p => setL es (.s p.1) p.2) []))
    (fun a x m q => hk a x (fun e => m (e ▸ .head _)) q) he (fun a m => List.mem_singleton.mp m ▸ noAl _) (fun a m => List.mem_singleton.mp m ▸ ⟨_, ho⟩)
    (fun a m => List.mem_singleton.mp m ▸ hp) (fun a m => List.mem_singleton.mp m ▸ hφ) (fun dx e => nn e)
    (.dct ho sys (.s kv hd) (V.mono (fun _ _ h => h) (List.prefix_append _ _)))
  exact ⟨W2, G2, VD.own (x := (c.s.heap.objs.size, none)) (by rw [← W1.len]; exact snoc_get)⟩
theorem ex_Dict (RS : RS w g n R) (hr : Rm A n) (W : Wd w g c) (F : Fm w env sc ρ c) {ks : List (Option Expr)} {vs : List Expr} {pos : Pos} {d : D} {H' : Hp} (h : (if ks.length ≤ 15 then (dpairs R sc ρ ks vs c.H).map fun x => (D.own x.2.length, x.2 ++ [O.dct (x.1.foldl (fun es p => setL es (.s p.1) p.2) [])]) else none) = some (d, H')) :
    wpAny (model pw w) A (eval (.Dict ks vs pos) env) (fun v s' => Out w g c v d H' s') Ef c.s := by
  refine i1 h fun hl h => mP (P := fun d H' => wpAny (model pw w) A (eval (.Dict ks vs pos) env) (fun v s' => Out w g c v d H' s') Ef c.s) h fun x h => ?_
  obtain ⟨W0, G0⟩ := W.grow (s' := { c.s with heap := c.s.heap.push dObj }) (fun _ _ h => Heap.get?_push_of_some _ h) rfl
  have hD : (c.s.heap.push dObj).get? c.s.heap.objs.size = some dObj := Heap.get?_push_size _ rfl
  have nL : ¬ Lv c.φ c.H c.s.heap.objs.size := fun l => noAl _ (W.lvlt l)
  have nP : ∀ o, ¬ c.p c.s.heap.objs.size o := fun o p => noAl _ ⟨_, W.sub _ _ p⟩
  have nφ : ¬ inφ c.φ c.s.heap.objs.size := fun ⟨k, x, h, m⟩ => noAl _ (W.lt k x _ h m)
  have empty0 : DictO w (PySem.strKind pw w) dObj [] := dictO_nil ⟨rfl, rfl, rfl⟩ ⟨0, rfl⟩
  obtain ⟨k1, k2, k3⟩ := dpairs_shape ks vs h
  by_cases h0 : ks = []
  · subst h0
    obtain rfl : vs = [] := List.eq_nil_of_length_eq_zero k2.symm
    cases h
    exact wpAny_Dict_empty (dict_fin W W0 G0 hD empty0 (fun a x _ q => q) rfl nP nφ (kvs := []) .nil)
  · refine wpAny_Dict_any k1 k2 h0 hl (wpOut (dpairs_ok (c := { c with s := { c.s with heap := c.s.heap.push dObj } }) RS hr ks vs W0 (F.go G0) h) fun l s1 o => ?_)
    obtain ⟨W1, G1, C1, V1⟩ := o
    rename_i p1 φ1 ws
    have hD1 : s1.heap.get? c.s.heap.objs.size = some dObj := G1.kp _ _ hD nL List.not_mem_nil
    have D1 : s1.heap.DictOf (PySem.strKind pw w) c.s.heap.objs.size [] := dictOf hD1 empty0
    have lt1 : Al { c.s with heap := c.s.heap.push dObj } c.s.heap.objs.size := ⟨_, hD⟩
    have hlen : ws.length ≤ 15 := by
      have l := vkds_len V1
      rw [List.length_map, List.length_map, k3] at l
      exact l ▸ hl
    refine wpAny_storeAll l ws [] s1 _ C1 D1 (by rw [sizeLine_eq]; simp; omega) fun h' D' S' => ?_
    obtain ⟨o', ho', dO⟩ := dictO_of D'
    exact dict_fin W W1 (G0.trans G1) ho' dO (fun a x ne q => (S'.2 a ne).trans q) rfl (fun o p => (G1.pn _ _ p).elim (nP o) fun p => p.elim (fun p => p lt1) nL) (fun q => (G1.ph _ q).elim nφ fun q => q lt1) (merged_ok ws .nil V1)
end
end Mine

end
noncomputable section
set_option Elab.async false
set_option maxRecDepth 100000
set_option maxHeartbeats 1000000
set_option linter.unusedVariables false
/-! attributes, subscripts -/
open PySem PySem.W PySem.Spec PySem.Calls PyProof.Rows
open PySem.SeqAt
namespace Mine
/-- what the heap's written part says of a class -/
structure ClOk (K : Frag) (cl : Cl) : Prop where
  ga : findIn K (.ref cl.addr) "__getattribute__" = some (some (.builtin "object.__getattribute__"))
  gm : findIn K (.ref cl.addr) "__getattr__" = some none
  sa : findIn K (.ref cl.addr) "__setattr__" = some (some (.builtin "object.__setattr__"))
  cd : ∃ cd, clsIn K cl.addr = some cd ∧ cd.hasDict = true
  po : plainOver K cl.addr = true
  kp : keepIn K (.ref cl.addr) = true
  mks : makesIn K cl.addr = true
  at_ : ∀ x, cl.attrs.contains x = true → findIn K (.ref cl.addr) x = some none
  me : ∀ m f, cl.meths.lookup m = some f → findIn K (.ref cl.addr) m = some (some (.ref f.addr)) ∧ typeIn K (.ref f.addr) = some (.type "function")
structure Gk (K : Frag) (g : Heap) (T : Tabs) : Prop where
  kin : K.In g
  cls : ∀ a cl, T.cls a = some cl → cl.addr = a ∧ ClOk K cl
section
variable {w : World} {g : Heap} {c : Cf} {A : Around} {env : Env} {sc : Sc} {ρ : Rho} {T : Tabs} {R : Rec} {n : Nat} {K : Frag}
theorem Wd.kin (W : Wd w g c) (GK : Gk K g T) : K.In c.s.heap := GK.kin.keeps W.old
theorem vads_find {p : Pm} {φ : Phi} {es : List DictEntry} {fs : List (Str × D)} (V : VADs w p φ es fs) (x : Str) :
    (∀ d, fs.lookup x = some d → ∃ e, es.find? (·.key.isStr x) = some e ∧ VD w p φ e.val d) ∧ (fs.lookup x = none → es.find? (·.key.isStr x) = none) := by
  induction V with
  | nil => exact ⟨fun _ h => nn h, fun _ => rfl⟩
  | @cons y t n v f vs fs h _ ih =>
    rw [List.lookup_cons, List.find?_cons]
    have e : (Value.str y t).isStr x = (x == y) := by simp only [Value.isStr]; rw [Bool.eq_iff_iff, beq_iff_eq, beq_iff_eq]; exact eq_comm
    simp only [e]
    cases hb : x == y with
    | true => exact ⟨fun d q => by cases q; exact ⟨_, rfl, h⟩, fun q => by cases q⟩
    | false => exact ih
theorem vads_ref {p : Pm} {φ : Phi} {es : List DictEntry} {fs : List (Str × D)} (V : VADs w p φ es fs) : es.any (·.refKey) = false := by
  induction V with
  | nil => rfl
  | cons h _ ih => rw [List.any_cons, ih]; rfl
theorem lookIn_some {p : Pm} {φ : Phi} {od : Obj} {es : List DictEntry} {fs : List (Str × D)} (i : isA od es) (V : VADs w p φ es fs) {x : Str} {d : D} (h : fs.lookup x = some d) : ∃ v, lookIn x od = some (some v) ∧ VD w p φ v d := by
  obtain ⟨n, rfl⟩ := i
  obtain ⟨e, h1, h2⟩ := (vads_find V x).1 d h
  exact ⟨e.val, by simp only [lookIn, h1], h2⟩
theorem lookIn_none {p : Pm} {φ : Phi} {od : Obj} {es : List DictEntry} {fs : List (Str × D)} (i : isA od es) (V : VADs w p φ es fs) {x : Str} (h : fs.lookup x = none) : lookIn x od = some none := by
  obtain ⟨n, rfl⟩ := i
  have h1 := (vads_find V x).2 h
  have h2 := vads_ref V
  simp only [lookIn, h1, h2]; rfl
theorem instAt_of {h : Heap} {a dx C : Addr} {o od : Obj} (ha : h.get? a = some o) (i : isI o C dx) (hd : h.get? dx = some od) : InstAt h a o C (some od) := by
  obtain ⟨sl, rfl⟩ := i
  exact ⟨ha, rfl, rfl, hd⟩
theorem handed_F {p : Pm} {v : Value} {x : F} (V : VF w p v x) (h : fGlb x = none) : handedIn v = true := by
  have V := V.inv
  cases x with
  | none => obtain rfl : v = .none := V; rfl
  | bool b => obtain rfl : v = .bool b := V; rfl
  | int i => obtain ⟨t, rfl⟩ := V; rfl
  | str i => obtain ⟨t, rfl⟩ := V; rfl
  | glob u => cases h
  | rng x y => obtain ⟨a, o, rfl, _⟩ := V; rfl
  | tup l => obtain ⟨a, o, _, rfl, _⟩ := V; rfl
  | lst l => obtain ⟨a, o, _, rfl, _⟩ := V; rfl
  | dct l => obtain ⟨a, o, _, rfl, _⟩ := V; rfl
  | ins l => obtain ⟨a, o, _, _, _, rfl, _⟩ := V; rfl
theorem handed_of {p : Pm} {φ : Phi} {v : Value} {d : D} (V : VD w p φ v d) (h : notGlob d = true) : handedIn v = true := by
  cases d with
  | f x => exact handed_F V.uf (Option.isNone_iff_eq_none.mp h)
  | own k => obtain ⟨x, rfl, _⟩ := V.inv; rfl
  | tup l => obtain ⟨a, o, vs, rfl, _⟩ := V.inv; rfl
theorem findObj_own {C : Addr} {od : Obj} {x : Str} {v : Value} {cd : ClassData} (hc : clsIn K C = some cd) (hh : cd.hasDict = true) (hf : findIn K (.ref C) x = some none) (hl : lookIn x od = some (some v)) : findObj K C (some od) x = some (.value v) := by
  simp [findObj, hc, hf, W.ownOf, hh, hl]
theorem attr_ok (GK : Gk K g T) (W : Wd w g c) {v : Value} {d d' : D} {i : Addr × List (Str × D)} {x : Str} {cl : Cl} {expr : Bool} (V : VD w c.p c.φ v d) (h : asIns d c.H = some i) (hl : i.2.lookup x = some d') (hT : T.cls i.1 = some cl) (hx : cl.attrs.contains x = true) (hg : notGlob d' = true) :
    wpAny (model pw w) A (getAttr v x expr) (fun v s' => Out w g c v d' c.H s') Ef c.s := by
  obtain ⟨a, o, dx, od, es, rfl, ha, i, hd, j, Vs⟩ := asIns_ok W V h
  obtain ⟨e, X⟩ := GK.cls _ _ hT
  obtain ⟨v', h1, h2⟩ := lookIn_some j Vs hl
  obtain ⟨cd, hc, hh⟩ := X.cd
  rw [← e] at i
  exact get_value (W.kin GK) (instAt_of ha i hd) X.ga (findObj_own hc hh (X.at_ x hx) h1) (handed_of h2 hg) (Out.tok W _ h2)
theorem base_ok {o : Expr} {x : Str} {o' : Sem Value} (ho : isCN o = false) : attributeBase o x env o' = o' := by
  cases o with
  | Call f a b p =>
    cases f with
    | Name => cases ho
    | _ => rfl
  | _ => rfl
theorem ex_Attribute (GK : Gk K g T) (RS : RS w g n R) (hr : Rm A n) (W : Wd w g c) (F : Fm w env sc ρ c) {o : Expr} {x : Str} {pos : Pos} {d : D} {H' : Hp} (h : attrE T R sc o x ρ c.H = some (d, H')) :
    wpAny (model pw w) A (eval (.Attribute o x pos) env) (fun v s' => Out w g c v d H' s') Ef c.s :=
  i0 h fun ho h => bE h fun d0 H1 h1 h => b1 h fun i h2 h => b1 h fun cl hT h => b1 h fun d' hl h => i1 h fun z h => by
    cases h
    rw [Bool.and_eq_true] at z
    exact Attribute_any_ (wpK (RS.ex A env sc o ρ c d0 H1 hr W F h1) fun v p φ s1 W1 G1 V1 => wpA G1 (attr_ok GK W1 V1 h2 hl hT z.1 z.2)) (by
      show (do let o' ← attributeBase o x env (eval o env); _) = _
      rw [base_ok ((Bool.not_eq_true _).mp ho)])

/-! ### stores into attributes -/
theorem vads_put {p : Pm} {φ : Phi} {es : List DictEntry} {fs : List (Str × D)} (V : VADs w p φ es fs) (x : Str) (t : Tok) (hs : Int) {v : Value} {d : D} (h : VD w p φ v d) :
    VADs w p φ (nsPutIn x.cps.size x.cps.toList (fun | some e => { e with val := v } | none => ⟨hs, .str x t, v⟩) es).1 (setA fs x d) := by
  rw [nsPutIn_is, isStrByCps_fun]
  induction V with
  | nil => exact .cons h .nil
  | @cons y ty n v' f vs fs h' r ih =>
    have e : (Value.str y ty).isStr x = (y == x) := rfl
    unfold nswPut setA
    simp only [e]
    cases hb : y == x with
    | true => exact .cons h r
    | false => exact .cons h' ih
theorem vads_len {p : Pm} {φ : Phi} {es : List DictEntry} {fs : List (Str × D)} (V : VADs w p φ es fs) : es.length = fs.length := by
  induction V with
  | nil => rfl
  | cons _ _ ih => rw [List.length_cons, List.length_cons, ih]
theorem setA_len (fs : List (Str × D)) (x : Str) (d : D) : (setA fs x d).length ≤ fs.length + 1 := by
  induction fs with
  | nil => exact Nat.le_refl _
  | cons e r ih =>
    unfold setA
    cases e.1 == x with
    | true => exact Nat.le_succ _
    | false => exact Nat.succ_le_succ ih
theorem isA_put {p : Pm} {φ : Phi} {od : Obj} {es : List DictEntry} {fs : List (Str × D)} (i : isA od es) (V : VADs w p φ es fs) (x : Str) (t : Tok) (hs : Int) {v : Value} {d : D} (h : VD w p φ v d) :
    ∃ es' m, Obj.putName x hs (.str x t) v od = PySem.W.dictOf es' m ∧ VADs w p φ es' (setA fs x d) := by
  obtain ⟨n, rfl⟩ := i
  have q := vads_put V x t hs h
  have e : Obj.putName x hs (.str x t) v (PySem.W.dictOf es n) = (match nsPutIn x.cps.size x.cps.toList (fun | some e => { e with val := v } | none => ⟨hs, .str x t, v⟩) es with | (es', false) => PySem.W.dictOf es' n | (es', true) => PySem.W.dictOf es' (n + 1)) := rfl
  rw [e]
  revert q
  generalize nsPutIn x.cps.size x.cps.toList _ es = r
  intro q
  obtain ⟨a, b⟩ := r
  cases b with
  | false => exact ⟨a, n, rfl, q⟩
  | true => exact ⟨a, n + 1, rfl, q⟩
theorem setattr_ok (GK : Gk K g T) (W : Wd w g c) {k : Nat} {v vo : Value} {d : D} {x : Str} {H' : Hp} (Vo : VD w c.p c.φ vo (.own k)) (V : VD w c.p c.φ v d) (h : setAttrD T k x d c.H = some H') :
    wpAny (model pw w) A (setAttr vo x v) (fun _ s' => OutU w g c H' s') Ef c.s := by
  refine b1 h fun i hi h => b1 h fun cl hT h => i1 h fun q h => b1 hi fun O hO hi => i0 hi fun hf hi => ?_
  cases h
  simp only [Bool.and_eq_true, decide_eq_true_eq] at q
  obtain ⟨y, rfl, hφ, t⟩ := own_tr W Vo hO
  obtain ⟨e, X⟩ := GK.cls _ _ hT
  have t := t.inv
  cases O with
  | ins C fs =>
    cases hi
    obtain ⟨dx, o, od, es, e2, ha, i, hd, j, Vs⟩ := t
    obtain ⟨a, _⟩ := y
    cases e2
    dsimp only at e ha hφ ⊢
    subst e
    obtain ⟨cd, hc, hh⟩ := X.cd
    have KI := W.kin GK
    have KI1 : K.In ({ c.s with toks := c.s.toks + 1 } : Shared).heap := KI
    have IA := instAt_of ha i hd
    obtain ⟨es', m, e1, Vs'⟩ := isA_put j Vs x c.s.toks.succ (PyData.keyHash w.params x) V
    have hlen : es'.length ≤ 901 := by rw [vads_len Vs']; have := setA_len fs x d; have : fs.length < 900 := q.2; omega
    refine set_plain KI IA X.sa ?_
    refine osa_open (s := { c.s with toks := c.s.toks + 1 }) KI IA X.po (r := none) (by simp [takerIn, X.at_ x q.1]) fun b => ?_
    have D' : (c.s.heap.update dx (Obj.putName x (PyData.keyHash w.params x) (.str x c.s.toks.succ) v)).get? dx = some (PySem.W.dictOf es' m) := e1 ▸ Heap.get?_update_self _ hd (by rw [e1]; rfl)
    obtain ⟨sl, rfl⟩ := id i
    obtain ⟨n0, rfl⟩ := id j
    refine wpAny_bind (wpAny_pure (wpAny_bind (wpAny_bind (wpAny_loadPart (s := { c.s with toks := c.s.toks + 1 }) ha (wpAny_bind ((looks_clsIn KI1 hc).here ?_))))))
    rw [hh]
    refine wpAny_pure (a := some dx) (wpAny_bind (wpAny_pure (wpAny_bind ?_)))
    unfold nsSet
    refine wpAny_bind (wpAny_bind (wpAny_askSetting (wpAny_pure (wpAny_bind (wpAny_mkText (wpAny_bind (wpAny_loadPart (s := { c.s with toks := c.s.toks + 1 + 1 }) hd ?_)))))))
    dsimp only
    have cc : (!es.toArray.any (·.key.isStr x) && es.toArray.any (·.refKey)) = false := by
      rw [show es.toArray.any (·.refKey) = false by rw [← Array.any_toList]; exact vads_ref Vs, Bool.and_false]
    rw [aRefKeyMayBeTheName_at, cc]
    refine wpAny_updatePart hd (wpAny_bind (wpAny_lookBehind D' (pastItsLine_dict (by rw [List.size_toArray, sizeLine_eq]; omega)) (wpAny_pure ?_)))
    have nad := W.ne k a dx hφ
    obtain ⟨W2, G2⟩ := W.put hφ hO rfl (s' := { c.s with heap := c.s.heap.update dx (Obj.putName x (PyData.keyHash w.params x) (.str x c.s.toks.succ) v), toks := c.s.toks + 1 + 1 }) (O' := .ins cl.addr (setA fs x d))
      (fun b o' m q => (Heap.get?_update_ne _ _ _ _ fun e => m (by rw [e]; exact .tail _ (.head _))).trans q) rfl rfl
      (.ins ((Heap.get?_update_ne _ _ _ _ nad).trans ha) ⟨sl, rfl⟩ D' ⟨m, rfl⟩ Vs')
    exact ⟨W2, G2⟩
  | frz v => exact absurd rfl hf
  | _ => exact nn hi

/-! ### subscripts -/
theorem sub_tail {value slice : Expr} {o i : Value} {Ty id : String} {Q : Value → Shared → Prop} {s : Shared} {E : Value → Shared → Prop} (hT : s.TypeIs o Ty) (hl : typeLookup (.type Ty) "__getitem__" = pure (some (.builtin id))) (h : wpAny (model pw w) A (getItem o i) Q E s) :
    wpAny (model pw w) A (subscriptTail value slice o i) Q E s := by
  have hs : ∃ l, subscripted slice false o i = operate l (getItem o i) := by
    cases slice with
    | Slice a b s p =>
      cases s with
      | none => exact ⟨_, rfl⟩
      | some _ => exact ⟨_, rfl⟩
    | _ => exact ⟨_, rfl⟩
  obtain ⟨l, hs⟩ := hs
  unfold subscriptTail
  refine wpAny_bind ?_
  rw [getitemInPython_of_ne hT.not_modules]
  refine wpAny_bind (wpAny_specialOf hT hl (wpAny_pure (wpAny_bind ?_)))
  rw [hs]
  exact wpAny_operating (wpAny_mono h (fun r s₃ h₃ => wpAny_bind (wpAny_letTemporaryGo (wpAny_pure h₃))) fun _ _ x => x)
theorem idx_ok {k : Int} {m j : Nat} (h : idx k m = some j) : m ≤ 100000 ∧ ((0 ≤ k ∧ k < m ∧ j = k.toNat) ∨ (k < 0 ∧ 0 ≤ k + m ∧ j = (k + m).toNat)) :=
  i0 h fun q h => i2 h (fun q1 h => i1 h fun q2 h => by cases h; exact ⟨Nat.not_lt.mp q, .inl ⟨q1, q2, rfl⟩⟩) fun q1 h => i1 h fun q2 h => by cases h; exact ⟨Nat.not_lt.mp q, .inr ⟨Int.not_le.mp q1, q2, rfl⟩⟩
theorem slot_dict_lookup : typeLookup (.type "dict") "__getitem__" = pure (some (.builtin "dict.__getitem__")) := PySem.F.slot_dict_getitem.lookup
theorem isDk_is {p : Pm} {o : Obj} {kvs : List (Key × Value)} (h : isDk w p o kvs) : o.ExactDict := by
  cases h with
  | s l h => exact let ⟨_, _, h, _⟩ := h; h
  | i l h => exact let ⟨_, _, h, _⟩ := h; h
  | t l h _ => exact let ⟨_, _, h, _⟩ := h; h
theorem seqOf_ok (W : Wd w g c) {v : Value} {d : D} {l : List D} (V : VD w c.p c.φ v d) (h : seqOf d c.H = some l) : LstAt w c v l ∨ TupAt w c v l := by
  unfold seqOf at h
  cases q : asLst d c.H with
  | some l' => rw [q] at h; cases h; exact .inl (asLst_ok W V q)
  | none => rw [q] at h; exact .inr (asTup_ok V h)
theorem getI_seq (W : Wd w g c) {vo : Value} {k : Int} {t : Tok} {l : List D} {j : Nat} {d' : D} {value slice : Expr} (hv : LstAt w c vo l ∨ TupAt w c vo l) (hj : idx k l.length = some j) (hd : l[j]? = some d') :
    wpAny (model pw w) A (subscriptTail value slice vo (.int k t)) (fun v s' => Out w g c v d' c.H s') Ef c.s := by
  obtain ⟨hm, hk⟩ := idx_ok hj
  rcases hv with ⟨a, o, vs, rfl, ha, il, V⟩ | ⟨a, o, vs, rfl, ha, il, V⟩
  · obtain ⟨v, hv, Vv⟩ := V.get hd
    have hl := V.length
    have IL := il.isList ha
    refine sub_tail IL.typeIs slot_list_getitem.lookup ?_
    rcases hk with ⟨k1, k2, rfl⟩ | ⟨k1, k2, rfl⟩
    · exact wpAny_getItem_list IL k1 (by omega) (by simpa using hv) (Out.id W Vv)
    · exact wpAny_getItem_list_neg IL k1 (by simp; omega) (by omega) (by simpa [hl] using hv) (Out.id W Vv)
  · obtain ⟨v, hv, Vv⟩ := V.get hd
    have hl := V.length
    have IT := il.isTup (W.sub _ _ ha)
    refine sub_tail IT.typeIs slot_tuple_getitem.lookup ?_
    have hq : seqIndex? k vs.toArray.size = some j := by
      unfold seqIndex?
      rw [List.size_toArray, hl]
      rcases hk with ⟨k1, k2, rfl⟩ | ⟨k1, k2, rfl⟩
      · have : ¬ k < 0 := by omega
        simp only [this, if_false]; rw [if_pos]; simp; omega
      · simp only [k1, if_true]; rw [if_pos]; simp; omega
    exact getItem_tuple IT (by omega) (by omega) hq (by simpa using hv) (Out.id W Vv)
theorem getI_ok (W : Wd w g c) (hu : A.units + 1 < cLine) {vo vi : Value} {d i d' : D} {value slice : Expr} (V : VD w c.p c.φ vo d) (Vi : VD w c.p c.φ vi i) (h : getI d i c.H = some d') :
    wpAny (model pw w) A (subscriptTail value slice vo vi) (fun v s' => Out w g c v d' c.H s') Ef c.s := by
  unfold getI at h
  cases q : seqOf d c.H with
  | some l =>
    rw [q] at h
    refine b1 h fun k hk h => b1 h fun j hj h => ?_
    obtain ⟨t, rfl⟩ := dInt_ok Vi hk
    exact getI_seq W (seqOf_ok W V q) hj h
  | none =>
    rw [q] at h
    refine b1 h fun k hk h => b1 h fun es he h => i1 h fun ha h => ?_
    obtain ⟨a, o, kvs, rfl, hg, hs, hd, Vk⟩ := asDct_ok W V he
    exact sub_tail ⟨_, hg, (isDk_is hd).1⟩ slot_dict_lookup (getD_ok W hu hg hd Vk ha (asKey_ok Vi hk) h fun v t q => Out.tok W t q)
theorem ex_Subscript (RS : RS w g n R) (hr : Rm A n) (W : Wd w g c) (F : Fm w env sc ρ c) {o i : Expr} {pos : Pos} {d : D} {H' : Hp} (h : subI R sc o i ρ c.H = some (d, H')) :
    wpAny (model pw w) A (eval (.Subscript o i pos) env) (fun v s' => Out w g c v d H' s') Ef c.s :=
  bE h fun a H1 h1 h => bE h fun b H2 h2 h => mP (P := fun d H' => wpAny (model pw w) A (eval (.Subscript o i pos) env) (fun v s' => Out w g c v d H' s') Ef c.s) h fun d h3 =>
    Subscript_ (wpK (exV_ok RS hr c o a H1 W F h1) fun vo p φ s1 W1 G1 V1 => wpK (RS.ex A env sc i ρ _ b H2 hr W1 (F.go G1) h2) fun vi p2 φ2 s2 W2 G2 V2 => wpA (G1.trans G2) (getI_ok W2 (Nat.lt_of_le_of_lt (Nat.add_le_add_left (by decide) _) hr.room10) (V1.mono G2.ps G2.fs) V2 h3))
end
end Mine

end
noncomputable section
set_option Elab.async false
set_option maxRecDepth 100000
set_option maxHeartbeats 1000000
set_option linter.unusedVariables false
/-! slices -/
open PySem PySem.W PySem.Spec PySem.Calls PyProof.Rows
open PySem.SeqAt
namespace Mine
theorem sliceE_eq {e : Expr} {x : Option Expr × Option Expr × Option Expr} (h : sliceE e = some x) : ∃ p, e = .Slice x.1 x.2.1 x.2.2 p := by cases e with | Slice a b s p => cases h; exact ⟨p, rfl⟩ | _ => exact nn h
section
variable {w : World} {g : Heap} {c : Cf} {A : Around} {env : Env} {sc : Sc} {ρ : Rho} {T : Tabs} {R : Rec} {n : Nat}
theorem optE_ok (RS : RS w g n R) (hr : Rm A n) (W : Wd w g c) (F : Fm w env sc ρ c) {e : Option Expr} {d : D} {H' : Hp} (h : optE R sc ρ e c.H = some (d, H')) :
    wpAny (model pw w) A (evalPart e env) (fun v s' => Out w g c v d H' s') Ef c.s := by
  cases e with
  | none => cases h; exact evalPart_none_step (Out.id W (.f .none))
  | some e => exact evalPart_some_step (RS.ex A env sc e ρ c d H' hr W F h)
theorem part_ok {p : Pm} {φ : Phi} {v : Value} {d : D} {q : Option Int} (V : VD w p φ v d) (h : optInt d = some q) : IsPart v q :=
  i2 h (fun e h => by cases h; rw [dNone_ok V e]; exact .none) fun _ h => m1 (P := fun q => IsPart v q) h fun k e => by obtain ⟨t, rfl⟩ := dInt_ok V e; exact .int _ _
theorem drop_ok {p : Pm} (k : Nat) : ∀ {vs : List Value} {fs : List F}, VFs w p vs fs → VFs w p (vs.drop k) (fs.drop k) := by
  induction k with
  | zero => exact fun V => V
  | succ k ih =>
    intro vs fs V
    cases fs with
    | nil => rw [show vs = [] from V.inv]; exact .nil
    | cons f fs => obtain ⟨v, r, rfl, _, V⟩ := V.inv; exact ih V
theorem take_ok {p : Pm} (k : Nat) : ∀ {vs : List Value} {fs : List F}, VFs w p vs fs → VFs w p (vs.take k) (fs.take k) := by
  induction k with
  | zero => exact fun _ => .nil
  | succ k ih =>
    intro vs fs V
    cases fs with
    | nil => rw [show vs = [] from V.inv]; exact .nil
    | cons f fs => obtain ⟨v, r, rfl, h, V⟩ := V.inv; exact .cons h (ih V)
theorem pick_ok {p : Pm} {vs : List Value} {fs : List F} (V : VFs w p vs fs) (lo hi : Option Int) : VFs w p (slicePick vs.toArray lo hi none).toList (sliceL lo hi fs) := by
  rw [slicePick_plain]
  unfold sliceL
  simp only [List.size_toArray, V.length]
  rw [List.drop_take]
  exact take_ok _ (drop_ok _ V)
theorem rev_ok {p : Pm} {vs : List Value} {fs : List F} (V : VFs w p vs fs) : VFs w p vs.reverse fs.reverse :=
  V.ind (P := fun vs fs => VFs w p vs.reverse fs.reverse) .nil fun v f vs fs h _ ih => by rw [List.reverse_cons, List.reverse_cons]; exact VFs.append (.cons h .nil) ih
noncomputable abbrev sliceO (a b s : Value) : Obj := { cls := .type "slice", data := .fields #[a, b, s] }
theorem Wd.push (W : Wd w g c) (o : Obj) : Wd w g { c with s := { c.s with heap := c.s.heap.push o } } ∧ Go [] c { c with s := { c.s with heap := c.s.heap.push o } } :=
  W.grow (fun _ _ h => Heap.get?_push_of_some _ h) rfl
/-- a slice of a list: what it picks, in a new list -/
theorem slice_any (W : Wd w g c) {vo vl vu vk : Value} {d : D} {fs : List F} {p q k : Option Int} {value : Expr} {slice : Expr} {Q : Value → Shared → Prop} (V : VD w c.p c.φ vo d) (h : frozenL d c.H = some fs) (hl : fs.length ≤ 100000) (Pl : IsPart vl p) (Pu : IsPart vu q) (Pk : IsPart vk k) (hk : k ≠ some 0)
    (hq : ∀ vs, VFs w c.p vs fs → Q (.ref (c.s.heap.push (sliceO vl vu vk)).objs.size) { c.s with heap := (c.s.heap.push (sliceO vl vu vk)).push { cls := .type "list", data := .seq (slicePick vs.toArray p q k) } }) :
    wpAny (model pw w) A (subscriptTail value slice vo (.ref c.s.heap.objs.size)) Q Ef { c.s with heap := c.s.heap.push (sliceO vl vu vk) } := by
  obtain ⟨a, o, vs, rfl, ha, il, Vs⟩ := frozenL_ok W V h
  have IL := il.isList (Heap.get?_push_of_some (sliceO vl vu vk) ha)
  refine sub_tail (s := { c.s with heap := c.s.heap.push (sliceO vl vu vk) }) IL.typeIs slot_list_getitem.lookup ?_
  exact wpAny_getItem_list_slice (s := { c.s with heap := c.s.heap.push (sliceO vl vu vk) }) IL (Heap.IsSliceOf.new ..) Pl Pu Pk hk (hq vs Vs) (by rw [List.size_toArray, Vs.length, sizeLine_eq]; omega)
theorem slice_lst (W : Wd w g c) {vo vl vu : Value} {d : D} {fs : List F} {p q : Option Int} {value : Expr} {slice : Expr} (V : VD w c.p c.φ vo d) (h : frozenL d c.H = some fs) (hl : fs.length ≤ 100000) (Pl : IsPart vl p) (Pu : IsPart vu q) :
    wpAny (model pw w) A (subscriptTail value slice vo (.ref c.s.heap.objs.size)) (fun v s' => Out w g c v (.f (.lst (sliceL p q fs))) c.H s') Ef { c.s with heap := c.s.heap.push (sliceO vl vu .none) } :=
  slice_any W V h hl Pl Pu .none (fun e => nn e) fun vs Vs => (Out.pushL (vs := (slicePick vs.toArray p q none).toList) (k := c.s.toks) (W.push _).1 (pick_ok Vs p q)).after (W.push _).2
theorem slice_rev (W : Wd w g c) {vo vk : Value} {d : D} {fs : List F} {value : Expr} {slice : Expr} (V : VD w c.p c.φ vo d) (h : frozenL d c.H = some fs) (hl : fs.length ≤ 100000) (Pk : IsPart vk (some (-1))) :
    wpAny (model pw w) A (subscriptTail value slice vo (.ref c.s.heap.objs.size)) (fun v s' => Out w g c v (.own c.H.length) (c.H ++ [.lst (dF fs.reverse)]) s') Ef { c.s with heap := c.s.heap.push (sliceO .none .none vk) } :=
  slice_any W V h hl .none .none Pk (fun e => by cases e) fun vs Vs => by
    rw [krv_pick]
    exact (Out.pushOwn (k := c.s.toks) (W.push _).1 (rev_ok Vs).toD).after (W.push _).2

/-! a tuple's beginning -/
theorem adjust_to (b n : Nat) (hb : b ≤ n) : Builtin.Slice.sliceAdjust none (some (b : Int)) 1 (n : Int) = ((0 : Int), (b : Int)) := by
  unfold Builtin.Slice.sliceAdjust
  have h1 : ¬ ((1 : Int) < 0) := by omega
  have h2 : ¬ ((b : Int) < 0) := by omega
  simp only [h1, h2, if_false]
  congr 1
  omega
theorem places_to (b : Nat) : Builtin.Slice.slicePlaces 0 (b : Int) 1 = b := by
  unfold Builtin.Slice.slicePlaces
  have h1 : (1 : Int) > 0 := by omega
  simp only [h1, if_true, Int.ediv_one]
  split <;> omega
theorem applied_to {s : Shared} {E : Value → Shared → Prop} {sl : Addr} {b n : Nat} {u : Tok} {Q : Int × Int × Nat → Shared → Prop} (hs : s.heap.IsSliceOf sl .none (.int b u) .none) (hb : b ≤ n) (h : Q (0, 1, b) s) :
    wpAny (model pw w) A (Builtin.Slice.sliceApplied (.ref sl) (pure (n : Int))) Q E s := by
  obtain ⟨os, hos, hcs, hds⟩ := id hs
  unfold Builtin.Slice.sliceApplied Builtin.Slice.sliceFields
  refine wpAny_bind (wpAny_bind (wpAny_field hos hds (x := .none) rfl (wpAny_bind (wpAny_field hos hds (x := .int b u) rfl (wpAny_bind (wpAny_field hos hds (x := .none) rfl (wpAny_pure (wpAny_bind (slicePart_none ?_)))))))))
  show wpAny _ _ (if ((1 : Int) == 0) = true then _ else _) _ _ s
  rw [if_neg (by decide)]
  refine wpAny_bind (slicePart_none (wpAny_bind (slicePart_int (wpAny_bind (wpAny_pure ?_)))))
  show wpAny _ _ (match Builtin.Slice.sliceAdjust none (some (b : Int)) 1 (n : Int) with | (lo, hi) => pure (lo, (1 : Int), Builtin.Slice.slicePlaces lo hi 1)) _ _ s
  rw [adjust_to b n hb]
  show wpAny _ _ (pure ((0 : Int), (1 : Int), Builtin.Slice.slicePlaces 0 (b : Int) 1)) _ _ s
  rw [places_to b]
  exact wpAny_pure h
theorem pick_to (xs : Array Value) (b : Nat) : ((List.range b).filterMap fun (k : Nat) => xs[((0 : Int) + (k : Int) * 1).toNat]?).toArray = (xs.toList.take b).toArray := by
  have e : (fun (k : Nat) => xs[((0 : Int) + (k : Int) * 1).toNat]?) = fun k => xs[k]? := by
    funext k
    have : ((0 : Int) + (k : Int) * 1).toNat = k := by omega
    rw [this]
  rw [e]
  have := pick_run xs 0 b
  rw [List.filterMap_map] at this
  have e2 : ((fun x => xs[x]?) ∘ fun x => 0 + x) = fun k => xs[k]? := by funext k; simp
  rw [e2] at this
  rw [this, List.drop_zero]
theorem getItem_tuple_to {s : Shared} {E : Value → Shared → Prop} {t sl : Addr} {items : Array Value} {b : Nat} {u : Tok} {Q : Value → Shared → Prop} (ht : IsTup s.heap t items) (hs : s.heap.IsSliceOf sl .none (.int b u) .none) (hb : b < items.size)
    (h : Q (.ref s.heap.objs.size) { s with heap := s.heap.push { cls := .type "tuple", data := .seq (items.toList.take b).toArray } })
    (hsz : items.size ≤ sizeLine) : wpAny (model pw w) A (getItem (.ref t) (.ref sl)) Q E s := by
  have hdrop : sizeOk (.seq (items.toList.take b).toArray) := by
    show (items.toList.take b).toArray.size ≤ sizeLine
    rw [List.size_toArray, List.length_take, Array.length_toList]
    omega
  obtain ⟨os, hos, hcs, hds⟩ := id hs
  have hTs : s.TypeIs (.ref sl) "slice" := ⟨os, hos, hcs⟩
  unfold getItem
  try with_reducible refine wpAny_holding ?_
  first | refine wpAny_bind (wpAny_pure ?_) | skip
  refine wpAny_bind (wpAny_sequenceKey ht.typeIs (by decide) ?_)
  refine wpAny_bind (wpAny_callSpecial?_slot (name := Str.ofString "__getitem__") ht.typeIs slot_tuple_getitem
    (wpAny_call_entry slot_tuple_getitem ht.typeIs entry_tuple_getitem ?_ (args_tuple_getitem _ _)))
  show wpAny _ _ (Builtin.Tuple.tupleItemsOf (.ref t) >>= _) _ _ s
  refine wpAny_bind (tupleItemsOf_ ht (wpAny_bind (wpAny_typeOf hTs ?_)))
  rw [if_pos (by decide)]
  refine wpAny_bind (applied_to hs (Nat.le_of_lt hb) ?_)
  have hno : ¬ (((0 : Int) == 0 && (1 : Int) == 1 && b == items.size) = true) := by
    have : (b == items.size) = false := by rw [beq_eq_false_iff_ne]; omega
    rw [this]; simp
  show wpAny _ _ (if ((0 : Int) == 0 && (1 : Int) == 1 && b == items.size) = true then _ else _) _ _ s
  rw [if_neg hno, pick_to items b]
  first
    | exact wpAny_bind (m := Builtin.Tuple.tupleExact _) (wpAny_newObj_type (wpAny_pure ⟨_, rfl, wpAny_pure h⟩) hdrop)
    | exact wpAny_bind (m := Builtin.Tuple.tupleExact _) (wpAny_newObj_type (wpAny_bind (wpAny_pure (wpAny_pure ⟨_, rfl, wpAny_pure h⟩))) hdrop)
    | exact wpAny_bind (wpAny_bind (m := Builtin.Tuple.tupleExact _) (wpAny_newObj_type (wpAny_pure (wpAny_pure ⟨_, rfl, wpAny_pure h⟩)) hdrop))
    | exact wpAny_bind (wpAny_bind (m := Builtin.Tuple.tupleExact _) (wpAny_newObj_type (wpAny_pure ⟨_, rfl, wpAny_pure h⟩) hdrop))
theorem slice_tup (W : Wd w g c) {vo vl vu : Value} {fs : List F} {p q : Option Int} {d' : D} {H' : Hp} {value : Expr} {slice : Expr} (V : VF w c.p vo (.tup fs)) (Pl : IsPart vl p) (Pu : IsPart vu q) (h : sliceT fs p q c.H = some (d', H')) :
    wpAny (model pw w) A (subscriptTail value slice vo (.ref c.s.heap.objs.size)) (fun v s' => Out w g c v d' H' s') Ef { c.s with heap := c.s.heap.push (sliceO vl vu .none) } :=
  b1 h fun k e h => i1 h fun z h => by
    have hlim : lim = 100000 := rfl
    cases h
    subst e
    simp only [Bool.and_eq_true, decide_eq_true_eq, Option.isNone_iff_eq_none] at z
    obtain ⟨⟨⟨rfl, z0⟩, z1⟩, z2⟩ := z
    obtain ⟨m, rfl⟩ := Int.eq_ofNat_of_zero_le z0
    cases Pl
    obtain ⟨u, rfl⟩ : ∃ u, vu = .int m u := by cases Pu; exact ⟨_, rfl⟩
    obtain ⟨a, o, vs, rfl, a1, a2, a3⟩ := V.inv
    have IT := a2.isTup (Heap.get?_push_of_some (sliceO .none (.int m u) .none) (W.sub _ _ a1))
    have hlen := a3.length
    refine sub_tail (s := { c.s with heap := c.s.heap.push (sliceO .none (.int m u) .none) }) IT.typeIs slot_tuple_getitem.lookup ?_
    refine getItem_tuple_to (s := { c.s with heap := c.s.heap.push (sliceO .none (.int m u) .none) }) IT (Heap.IsSliceOf.new ..) (by rw [List.size_toArray]; omega) ?_ (by rw [List.size_toArray, sizeLine_eq]; omega)
    exact (Out.pushT (k := c.s.toks) (W.push _).1 (take_ok m a3)).after (W.push _).2
theorem limL_ok {o : Option (List F)} {l : List F} (h : o.bind limL = some l) : o = some l ∧ l.length ≤ 100000 := b1 h fun x e h => i1 h fun q h => by cases h; exact ⟨e, q⟩
theorem optNone {lo : Option Expr} (h : lo = none) {da : D} {H H' : Hp} {p : Pm} {φ : Phi} {v : Value} (e : optE R sc ρ lo H = some (da, H')) (V : VD w p φ v da) : v = .none := by
  subst h; cases e; exact V.uf.inv
theorem ex_Slice (RS : RS w g n R) (hr : Rm A n) (W : Wd w g c) (F : Fm w env sc ρ c) {o : Expr} {lo hi st : Option Expr} {p pos : Pos} {dd : D} {H' : Hp} (h : subS R sc o lo hi st ρ c.H = some (dd, H')) :
    wpAny (model pw w) A (eval (.Subscript o (.Slice lo hi st p) pos) env) (fun v s' => Out w g c v dd H' s') Ef c.s := by
  refine bE h fun d H1 h1 h => bE h fun da H2 h2 h => bE h fun db H3 h3 h => ?_
  refine Subscript_ (wpK (exV_ok RS hr c o d H1 W F h1) fun vo p1 φ1 s1 W1 G1 V1 => wpAny_Slice (wpK (optE_ok RS hr W1 (F.go G1) h2) fun va p2 φ2 s2 W2 G2 V2 => wpK (optE_ok RS hr W2 (F.go (G1.trans G2)) h3) fun vb p3 φ3 s3 W3 G3 V3 => ?_))
  have V1 := V1.mono (G2.trans G3).ps (G2.trans G3).fs
  have V2 := V2.mono G3.ps G3.fs
  have GG := (G1.trans G2).trans G3
  cases st with
  | none =>
    refine b1 h fun v h4 h => b1 h fun q1 e1 h => b1 h fun q2 e2 h => evalPart_none_step (wpA GG ?_)
    have P1 := part_ok V2 e1
    have P2 := part_ok V3 e2
    unfold sliceF at h
    cases q : fTup v with
    | some fs => rw [q] at h; rw [fTup_eq q] at h4; exact slice_tup W3 (frozen_tup W3 V1 h4) P1 P2 h
    | none =>
      rw [q] at h
      exact mP (P := fun dd H' => wpAny (model pw w) A (subscriptTail o (.Slice lo hi none p) vo (.ref s3.heap.objs.size)) (fun v s' => Out w g ⟨p3, φ3, H3, s3⟩ v dd H' s') Ef { s3 with heap := s3.heap.push (sliceO va vb .none) }) h fun l e => slice_lst W3 V1 (by unfold frozenL; rw [h4]; exact (limL_ok e).1) (limL_ok e).2 P1 P2
  | some e =>
    refine bE h fun dk H4 h4 h => b1 h fun i hi' h => i1 h fun z h => ?_
    simp only [Bool.and_eq_true, Option.isNone_iff_eq_none, decide_eq_true_eq] at z
    obtain rfl := optNone z.1.2 h2 V2
    obtain rfl := optNone z.2 h3 V3
    refine evalPart_some_step (wpK (RS.ex A env sc e ρ _ dk H4 hr W3 (F.go GG) h4) fun vk p4 φ4 s4 W4 G4 V4 => wpA (GG.trans G4) ?_)
    obtain ⟨t, rfl⟩ := dInt_ok V4 hi'
    exact mP (P := fun dd H' => wpAny (model pw w) A (subscriptTail o (.Slice lo hi (some e) p) vo (.ref s4.heap.objs.size)) (fun v s' => Out w g ⟨p4, φ4, H4, s4⟩ v dd H' s') Ef { s4 with heap := s4.heap.push (sliceO .none .none (.int i t)) }) h fun l e => slice_rev W4 (V1.mono G4.ps G4.fs) (limL_ok e).1 (limL_ok e).2 (z.1.1 ▸ .int _ _)
end
end Mine

end
noncomputable section
set_option Elab.async false
set_option maxRecDepth 100000
set_option maxHeartbeats 1000000
set_option linter.unusedVariables false
/-! calls of what the language itself brings -/
open PySem PySem.W PySem.Spec PySem.Calls PyProof.Rows
open PySem.SeqAt
namespace Mine
section
variable {w : World} {g : Heap} {c : Cf} {A : Around}
theorem Out.kept (W : Wd w g c) {s' : Shared} {v : Value} {d : D} (hk : ∀ a o, c.s.heap.get? a = some o → s'.heap.get? a = some o) (he : s' = { c.s with heap := s'.heap, toks := s'.toks }) (V : VD w c.p c.φ v d) : Out w g c v d c.H s' :=
  ⟨(W.grow hk he).1, (W.grow hk he).2, V⟩
theorem intsD_ok {p : Pm} {φ : Phi} {vs : List Value} {ds : List D} (V : VDs w p φ vs ds) : ∀ {ns : List Int}, intsD ds = some ns → ∃ xs : List (Int × Tok), vs = xs.map (fun p => .int p.1 p.2) ∧ xs.map (·.1) = ns :=
  V.ind (P := fun vs ds => ∀ {ns : List Int}, intsD ds = some ns → ∃ xs : List (Int × Tok), vs = xs.map (fun p => .int p.1 p.2) ∧ xs.map (·.1) = ns) (fun h => by cases h; exact ⟨[], rfl, rfl⟩) fun v d vs ds h1 _ ih ns h =>
    b1 h fun n e h => m1 (P := fun ns => ∃ xs : List (Int × Tok), v :: vs = xs.map (fun p => .int p.1 p.2) ∧ xs.map (·.1) = ns) h fun ms e2 => by
      obtain ⟨t, rfl⟩ := dInt_ok h1 e
      obtain ⟨xs, rfl, rfl⟩ := ih e2
      exact ⟨(n, t) :: xs, rfl, rfl⟩
theorem foldl_best (f : Int → Int → Int) (le : Int → Int → Prop) (h1 : ∀ a b, f a b = a ∨ f a b = b) (h2 : ∀ a b, le a (f a b) ∧ le b (f a b)) (tr : ∀ a b c, le a b → le b c → le a c) (re : ∀ a, le a a) (an : ∀ a b, le a b → le b a → a = b) :
    ∀ (r : List Int) (a M : Int), M ∈ a :: r → (∀ x ∈ a :: r, le x M) → r.foldl f a = M := by
  intro r a M hM hx
  have m1 : ∀ (r : List Int) (a : Int), r.foldl f a ∈ a :: r := by
    intro r
    induction r with
    | nil => intro a; exact .head _
    | cons b r ih =>
      intro a
      rw [List.foldl_cons]
      rcases List.mem_cons.mp (ih (f a b)) with e | e
      · rw [e]; rcases h1 a b with q | q <;> rw [q]
        · exact .head _
        · exact .tail _ (.head _)
      · exact .tail _ (.tail _ e)
  have m2 : ∀ (r : List Int) (a x : Int), x ∈ a :: r → le x (r.foldl f a) := by
    intro r
    induction r with
    | nil => intro a x h; rcases List.mem_cons.mp h with rfl | h; exact re _; cases h
    | cons b r ih =>
      intro a x h
      rw [List.foldl_cons]
      have t := ih (f a b) (f a b) (.head _)
      rcases List.mem_cons.mp h with rfl | h
      · exact tr _ _ _ (h2 _ b).1 t
      · rcases List.mem_cons.mp h with rfl | h
        · exact tr _ _ _ (h2 a _).2 t
        · exact ih _ _ (.tail _ h)
  exact an _ _ (hx _ (m1 r a)) (m2 r a M hM)
theorem foldl_max {r : List Int} {a M : Int} (h : M ∈ a :: r) (hx : ∀ x ∈ a :: r, x ≤ M) : r.foldl max a = M :=
  foldl_best max (· ≤ ·) (fun a b => by omega) (fun a b => by omega) (fun _ _ _ => Int.le_trans) Int.le_refl (fun _ _ => Int.le_antisymm) r a M h hx
theorem foldl_min {r : List Int} {a M : Int} (h : M ∈ a :: r) (hx : ∀ x ∈ a :: r, M ≤ x) : r.foldl min a = M :=
  foldl_best min (fun x y => y ≤ x) (fun a b => by omega) (fun a b => by omega) (fun _ _ _ p q => Int.le_trans q p) Int.le_refl (fun _ _ p q => Int.le_antisymm q p) r a M h hx
theorem numAt_of {xs : List (Int × Tok)} {i : Nat} (h : i < xs.length) : numAt xs.toArray i = (xs.map (·.1))[i]'((List.length_map ..).symm ▸ h) := by
  simp [numAt, h]
/-- the best of a list, by any measure -/
theorem best_at {xs : List (Int × Tok)} {a : Int} {r : List Int} (e : xs.map (·.1) = a :: r) {le : Int → Int → Prop} {f : Int → Int → Int} (hf : ∀ {M}, M ∈ a :: r → (∀ x ∈ a :: r, le x M) → r.foldl f a = M) {i : Nat} (hi : i < xs.length) (h : ∀ j, j ≤ xs.toArray.size - 1 → le (numAt xs.toArray j) (numAt xs.toArray i)) :
    r.foldl f a = numAt xs.toArray i := by
  refine hf ?_ fun x hx => ?_
  · rw [numAt_of hi, ← e]; exact List.getElem_mem _
  · rw [← e] at hx
    obtain ⟨j, hj, rfl⟩ := List.getElem_of_mem hx
    have hj' : j < xs.length := (List.length_map (f := fun p : Int × Tok => p.1) (as := xs)) ▸ hj
    rw [← numAt_of hj']; exact h j (Nat.le_sub_one_of_lt hj')
theorem best_ok (hh : A.handled = none) (W : Wd w g c) {v : Value} {d : D} {l : List D} {a : Int} {r : List Int} (V : VD w c.p c.φ v d) (hl : asLst d c.H = some l) (hi : intsD l = some (a :: r)) :
    wpAny (model pw w) A (call (.builtin "max") [v]) (fun v s' => Out w g c v (.f (.int (r.foldl max a))) c.H s') Ef c.s ∧ wpAny (model pw w) A (call (.builtin "min") [v]) (fun v s' => Out w g c v (.f (.int (r.foldl min a))) c.H s') Ef c.s := by
  obtain ⟨ad, o, vs, rfl, ha, il, Vl⟩ := asLst_ok W V hl
  obtain ⟨xs, rfl, e⟩ := intsD_ok Vl hi
  have IL := il.isList ha
  have hxs : (xs.map fun p => Value.int p.1 p.2).toArray = intItems xs.toArray := by simp [intItems]
  rw [hxs] at IL
  have len : xs.length = r.length + 1 := by rw [← List.length_map (f := (·.1)) (as := xs), e]; rfl
  have lt : ∀ {i v}, (intItems xs.toArray)[i]? = some v → i < xs.length := fun hv => by simpa [intItems] using (Array.getElem?_eq_some_iff.mp hv).1
  constructor
  · refine max_intList hh IL (by simp; omega) fun v h' tk hv hk => ?_
    obtain ⟨t, rfl⟩ := intItems_at hv
    rw [best_at e foldl_max (lt hv) (argBest_gt (numAt xs.toArray) (xs.toArray.size - 1)).2]
    exact Out.kept W hk rfl (.f (.int _ _))
  · refine min_intList hh IL (by simp; omega) fun v h' tk hv hk => ?_
    obtain ⟨t, rfl⟩ := intItems_at hv
    rw [best_at (le := fun x y => y ≤ x) e foldl_min (lt hv) (argBest_lt (numAt xs.toArray) (xs.toArray.size - 1)).2]
    exact Out.kept W hk rfl (.f (.int _ _))
theorem foldH_ok {f : Int → Int → Int} {l : List Int} {m : Int} (h : foldH f l = some m) : ∃ a r, l = a :: r ∧ m = r.foldl f a := by
  cases l with
  | nil => exact nn h
  | cons a r => cases h; exact ⟨a, r, rfl, rfl⟩
noncomputable def CallOk (w : World) (g : Heap) (A : Around) (c : Cf) (f : Value) (vs : List Value) (d : D) : Prop := wpAny (model pw w) A (call f vs) (fun v s' => Out w g c v d c.H s') Ef c.s
theorem bestB_ok {nm : String} {f : Int → Int → Int} (W : Wd w g c) {vs : List Value} {ds : List D} {d : D} (Vs : VDs w c.p c.φ vs ds) (h : bestB f ds c.H = some d)
    (h2 : ∀ x y t u, CallOk w g A c (.builtin nm) [.int x t, .int y u] (.f (.int (f x y)))) (h1 : ∀ v d l a r, VD w c.p c.φ v d → asLst d c.H = some l → intsD l = some (a :: r) → CallOk w g A c (.builtin nm) [v] (.f (.int (r.foldl f a)))) : CallOk w g A c (.builtin nm) vs d := by
  unfold bestB at h
  cases q : two ds with
  | some x =>
    rw [q] at h
    rw [two_eq q] at Vs
    obtain ⟨v, u, rfl, V, U⟩ := Vs.two
    exact int2_ok (P := fun v u => call (.builtin nm) [v, u]) rfl V U h fun x y z t u e => by cases e; exact h2 x y t u
  | none =>
    rw [q] at h
    refine b1 h fun d0 e0 h => b1 h fun l hl h => b1 h fun ns hn h => m1 (P := fun d => CallOk w g A c (.builtin nm) vs d) h fun m hm => ?_
    rw [one_eq e0] at Vs
    obtain ⟨v, rfl, V⟩ := Vs.one
    obtain ⟨a, r, rfl, rfl⟩ := foldH_ok hm
    exact h1 v d0 l a r V hl hn
theorem lenB_ok (W : Wd w g c) {vs : List Value} {ds : List D} {d : D} (Vs : VDs w c.p c.φ vs ds) (h : lenB ds c.H = some d) : CallOk w g A c (.builtin "len") vs d :=
  b1 h fun d0 e0 h => b1 h fun l hl h => i1 h fun q h => by
    have hlim : lim = 100000 := rfl
    cases h
    rw [one_eq e0] at Vs
    obtain ⟨v, rfl, V⟩ := Vs.one
    rcases seqOf_ok W V hl with ⟨a, o, vs, rfl, ha, il, Vl⟩ | ⟨a, o, vs, rfl, ha, il, Vl⟩
    · have := Vl.length
      refine call_len_list (il.isList ha) (by rw [List.size_toArray]; omega) ?_
      rw [List.size_toArray, this]
      exact Out.tok W _ (.f (.int _ _))
    · have := Vl.length
      refine PyProof.Rows.len_tuple (il.isTup (W.sub _ _ ha)) (by rw [List.size_toArray]; omega) ?_
      rw [List.size_toArray, this]
      exact Out.tok W _ (.f (.int _ _))
theorem vTy_eq {v : Value} {n : String} (h : vTy v = some n) : v = .type n := by cases v with | type n => cases h; rfl | _ => exact nn h
theorem isiB_ok (W : Wd w g c) {v u : Value} {d t : D} {b : Bool} (V : VD w c.p c.φ v d) (U : VD w c.p c.φ u t) (h : isiB d t c.H = some b) : CallOk w g A c (.builtin "isinstance") [v, u] (.f (.bool b)) :=
  b1 h fun n e h => b1 e fun x e1 e2 => by
    rw [vTy_eq e2] at e1
    obtain rfl := dGlb_ok U e1
    refine i2 h (fun q h5 => ?_) fun _ h => i1 h fun q h6 => ?_
    · subst q
      refine i2 h5 (fun q h => ?_) fun _ h => m1 (P := fun b => CallOk w g A c (.builtin "isinstance") [v, .type "list"] (.f (.bool b))) h fun m e => ?_
      · cases h
        obtain ⟨l, hl⟩ := Option.isSome_iff_exists.mp q
        obtain ⟨a, o, vs, rfl, ha, ⟨m, rfl⟩, Vl⟩ := asLst_ok W V hl
        exact IsiPair.list_list ha rfl (Out.id W (.f (.bool _)))
      · obtain ⟨t, rfl⟩ := dInt_ok V e; exact IsiPair.int_list (Out.tok W _ (.f (.bool _)))
    · subst q
      refine b1 h6 fun x e h => i1 h fun q h => ?_
      cases h
      rw [unF_eq e] at V
      have V := V.uf.inv
      cases x with
      | int n => obtain ⟨t, rfl⟩ := V; exact IsiPair.int_bool (Out.tok W _ (.f (.bool _)))
      | str n => obtain ⟨t, rfl⟩ := V; exact IsiPair.str_bool (Out.tok W _ (.f (.bool _)))
      | tup l => obtain ⟨a, o, vs, rfl, h1, h2, _⟩ := V; exact IsiPair.tuple_bool (W.sub _ _ h1) h2.1 (Out.tok W _ (.f (.bool _)))
      | none => obtain rfl : v = .none := V; exact IsiPair.NoneType_bool (Out.tok W _ (.f (.bool _)))
      | _ => cases q
theorem callB_ok (hh : A.handled = none) (W : Wd w g c) {nm : String} {vs : List Value} {ds : List D} {d : D} (Vs : VDs w c.p c.φ vs ds) (h : callB nm ds c.H = some d) : CallOk w g A c (.builtin nm) vs d := by
  refine i2 h (fun e h => ?_) fun _ h => i2 h (fun e h => ?_) fun _ h => i2 h (fun e h => ?_) fun _ h => i1 h fun e h => ?_
  · subst e; exact lenB_ok W Vs h
  · subst e
    refine bestB_ok W Vs h (fun x y t u => max_two_ints hh fun h' tk hk => ?_) fun v d l a r V hl hi => (best_ok hh W V hl hi).1
    have e : (if y > x then Value.int y u else Value.int x t) = Value.int (max x y) (if y > x then u else t) := by
      split
      · rw [show max x y = y by omega]
      · rw [show max x y = x by omega]
    rw [e]
    exact Out.kept W hk rfl (.f (.int _ _))
  · subst e
    refine bestB_ok W Vs h (fun x y t u => min_two_ints hh fun h' tk hk => ?_) fun v d l a r V hl hi => (best_ok hh W V hl hi).2
    have e : (if y < x then Value.int y u else Value.int x t) = Value.int (min x y) (if y < x then u else t) := by
      split
      · rw [show min x y = y by omega]
      · rw [show min x y = x by omega]
    rw [e]
    exact Out.kept W hk rfl (.f (.int _ _))
  · subst e
    refine b1 h fun x e h => m1 (P := fun d => CallOk w g A c (.builtin "isinstance") vs d) h fun b hb => ?_
    rw [two_eq e] at Vs
    obtain ⟨v, u, rfl, V, U⟩ := Vs.two
    exact isiB_ok W V U hb
theorem rangeT_ok (W : Wd w g c) {vs : List Value} {ds : List D} {f : F} (Vs : VDs w c.p c.φ vs ds) (h : rangeT ds = some f) : CallOk w g A c (.type "range") vs (.f f) := by
  unfold rangeT at h
  cases q : one ds with
  | some d =>
    rw [q] at h
    rw [one_eq q] at Vs
    obtain ⟨v, rfl, V⟩ := Vs.one
    exact m1 (P := fun f => CallOk w g A c (.type "range") [v] (.f f)) h fun n e => by
      obtain ⟨t, rfl⟩ := dInt_ok V e
      exact call_range_1 (Out.pushF W rfl fun p hp ho => .rng ho ⟨_, _, _, rfl⟩)
  | none =>
    rw [q] at h
    refine b1 h fun x e h => b1 h fun n e1 h => m1 (P := fun f => CallOk w g A c (.type "range") vs (.f f)) h fun m e2 => ?_
    rw [two_eq e] at Vs
    obtain ⟨v, u, rfl, V, U⟩ := Vs.two
    obtain ⟨t, rfl⟩ := dInt_ok V e1; obtain ⟨t', rfl⟩ := dInt_ok U e2
    exact call_range_2 (Out.pushF W rfl fun p hp ho => .rng ho ⟨_, _, _, rfl⟩)
theorem callT_ok (W : Wd w g c) {nm : String} {vs : List Value} {ds : List D} {f : F} (Vs : VDs w c.p c.φ vs ds) (h : callT nm ds c.H = some f) : CallOk w g A c (.type nm) vs (.f f) := by
  refine i2 h (fun e h => ?_) fun _ h => i2 h (fun e h => by subst e; exact rangeT_ok W Vs h) fun _ h => b1 h fun d e0 h => b1 h fun x hx h => ?_
  · subst e
    refine b1 h fun d e h => m1 (P := fun f => CallOk w g A c (.type "int") vs (.f f)) h fun n e2 => ?_
    rw [one_eq e] at Vs
    obtain ⟨v, rfl, V⟩ := Vs.one
    obtain ⟨t, rfl⟩ := dInt_ok V e2; exact call_int_int (Out.id W (.f (.int _ _)))
  rw [one_eq e0] at Vs
  obtain ⟨v, rfl, V⟩ := Vs.one
  have FL : ∀ {l}, ((fLst x).bind limL) = some l → FLAt w c v l ∧ l.length ≤ 100000 := fun e => ⟨frozenL_ok W V (by unfold frozenL; rw [hx]; exact (limL_ok e).1), (limL_ok e).2⟩
  refine i2 h (fun e h => m1 (P := fun f => CallOk w g A c (.type nm) [v] (.f f)) h fun l e2 => ?_) fun _ h => i1 h fun e h => ?_
  · subst e
    obtain ⟨⟨a, o, vs, rfl, ha, il, Vl⟩, hl⟩ := FL e2
    obtain ⟨m, rfl⟩ := id il
    have := Vl.length
    refine call_list_seq a (.inl rfl) ha rfl rfl (fun h' c' hk ho => ?_) (by rw [List.size_toArray, sizeLine_eq]; omega)
    exact Out.newF W (s' := { c.s with heap := h' }) hk rfl ho (noAl _) fun p hp hx => .lst hx ⟨c', rfl⟩ (Vl.mono hp)
  · subst e
    unfold tupleT at h
    cases q : fTup x with
    | some l =>
      rw [q] at h
      cases h
      rw [fTup_eq q] at hx
      have V' := frozen_tup W V hx
      obtain ⟨a, o, vs, rfl, h1, h2, h3⟩ := V'.inv
      exact PyProof.Rows.call_tuple_tup (h2.isTup (W.sub _ _ h1)) (Out.id W (.f V'))
    | none =>
      rw [q] at h
      refine m1 (P := fun f => CallOk w g A c (.type "tuple") [v] (.f f)) h fun l e2 => ?_
      obtain ⟨⟨a, o, vs, rfl, ha, il, Vl⟩, hl⟩ := FL e2
      have := Vl.length
      refine call_tuple_list (il.isList ha) (fun h' hk => ?_) (by rw [List.size_toArray, sizeLine_eq]; omega)
      exact Out.newF W (s' := { c.s with heap := h'.push { cls := .type "tuple", data := .seq vs.toArray } }) (fun a o e => Heap.get?_push_of_some _ (hk a o e)) rfl (Heap.get?_push_size _ rfl)
        (fun ⟨o, e⟩ => Nat.lt_irrefl _ (Heap.lt_size (hk _ _ e))) fun p hp hx => .tup hx isT.new (Vl.mono hp)

/-! ### methods of lists -/
theorem own_list (W : Wd w g c) {k : Nat} {a : Addr} {l l' : List D} {h' : Heap} {o' : Obj} {vs' : List Value} {v : Value} {d : D} (hφ : c.φ[k]? = some (a, none)) (hO : c.H[k]? = some (.lst l)) (hs : Heap.SameBut a c.s.heap h') (ho : h'.get? a = some o') (il : isL o' vs') (V : VDs w c.p c.φ vs' l') (Vd : VD w c.p c.φ v d) :
    Out w g c v d (c.H.set k (.lst l')) { c.s with heap := h' } :=
  let ⟨W', G'⟩ := W.put (O' := .lst l') (s' := { c.s with heap := h' }) hφ hO rfl (fun b x m e => (hs.2 b fun q => m (by rw [q]; exact .head _)).trans e) rfl rfl (.lst ho il V)
  ⟨W', G', Vd⟩
/-- a list of the run's own, and how it stands -/
noncomputable def OwnAt (w : World) (c : Cf) (v : Value) (k : Nat) (l : List D) : Prop := ∃ a vs m, v = .ref a ∧ c.φ[k]? = some (a, none) ∧ c.H[k]? = some (.lst l) ∧ c.s.heap.get? a = some { cls := .type "list", data := .seq vs.toArray m } ∧ VDs w c.p c.φ vs l
theorem ownL_ok (W : Wd w g c) {v : Value} {d : D} {x : Nat × List D} (V : VD w c.p c.φ v d) (h : ownL d c.H = some x) : OwnAt w c v x.1 x.2 := by
  cases d with
  | own k =>
    refine m1 (P := fun x => OwnAt w c v x.1 x.2) h fun l h => b1 h fun O hO h => ?_
    obtain ⟨⟨a, dx⟩, rfl, hx, t⟩ := own_tr W V hO
    have t := t.inv
    cases O with
    | lst ds => cases h; obtain ⟨o, vs, rfl, h1, ⟨m, rfl⟩, h2⟩ := t; exact ⟨a, vs, m, rfl, hx, hO, h1, h2⟩
    | _ => exact nn h
  | _ => exact nn h
theorem isL_update {h : Heap} {a : Addr} {vs : List Value} {m : Nat} (f : Array Value → Array Value) (e : h.get? a = some { cls := .type "list", data := .seq vs.toArray m }) :
    ∃ o', (h.update a (Obj.mapSeq f)).get? a = some o' ∧ isL o' (f vs.toArray).toList := ⟨_, PySem.IsL.update e f, _, rfl⟩
theorem last_split {p : Pm} {φ : Phi} (l : List D) : ∀ {vs : List Value} {x : D}, VDs w p φ vs l → l.getLast? = some x → ∃ q y, vs = q ++ [y] ∧ VDs w p φ q l.dropLast ∧ VD w p φ y x := by
  induction l with
  | nil => intro vs x V hx; exact nn hx
  | cons d r ih =>
    intro vs x V hx
    obtain ⟨v, us, rfl, h1, h2⟩ := V.inv
    cases r with
    | nil => cases hx; rw [show us = [] from h2.inv]; exact ⟨[], _, rfl, .nil, h1⟩
    | cons e r =>
      rw [List.getLast?_cons_cons] at hx
      obtain ⟨q, y, e1, e2, e3⟩ := ih h2 hx
      exact ⟨_ :: q, y, by rw [e1]; rfl, .cons h1 e2, e3⟩
/-- the name of a list's method -/
noncomputable def lid (m : Str) : String := if m = ("append" : Str) then "list.append" else if m = ("extend" : Str) then "list.extend" else if m = ("pop" : Str) then "list.pop" else "list.insert"
theorem methL_ok (W : Wd w g c) {v : Value} {k : Nat} {l : List D} {m : Str} {vs : List Value} {ds : List D} {y : D × List D} (O : OwnAt w c v k l) (hl : l.length ≤ 100000) (Vs : VDs w c.p c.φ vs ds) (h : methL m l ds c.H = some y) :
    wpAny (model pw w) A (call (.builtin (lid m)) (v :: vs)) (fun v s' => Out w g c v y.1 (c.H.set k (.lst y.2)) s') Ef c.s := by
  obtain ⟨a, ws, n, rfl, hφ, hO, ha, Vl⟩ := O
  have hlen := Vl.length
  refine i2 h (fun e h => ?_) fun n1 h => i2 h (fun e h => ?_) fun n2 h => i2 h (fun e h => ?_) fun n3 h => i1 h fun e h => ?_
  · refine m1 (P := fun y => wpAny (model pw w) A (call (.builtin (lid m)) (.ref a :: vs)) (fun v s' => Out w g c v y.1 (c.H.set k (.lst y.2)) s') Ef c.s) h fun x hx => ?_
    rw [one_eq hx] at Vs
    obtain ⟨vx, rfl, Vx⟩ := Vs.one
    rw [show lid m = "list.append" from if_pos e]
    exact append_at (hsz := by rw [List.size_toArray, sizeLine_eq]; omega) ha fun h' hs ho => own_list W hφ hO hs ho (vs' := ws ++ [vx]) ⟨n + 1, by simp⟩ (VDs.append (.cons Vx .nil) Vl) (.f .none)
  · refine b1 h fun x hx h => m1 (P := fun y => wpAny (model pw w) A (call (.builtin (lid m)) (.ref a :: vs)) (fun v s' => Out w g c v y.1 (c.H.set k (.lst y.2)) s') Ef c.s) h fun fs hf => ?_
    rw [one_eq hx] at Vs
    obtain ⟨vx, rfl, Vx⟩ := Vs.one
    obtain ⟨b, o2, vs2, rfl, hb, ⟨m2, rfl⟩, Vf⟩ := frozenL_ok W Vx (limL_ok hf).1
    have l1 := Vf.length
    have l2 := (limL_ok hf).2
    rw [show lid m = "list.extend" from (if_neg n1).trans (if_pos e)]
    refine call_meets PySem.F.slot_list_extend ⟨_, ha, rfl⟩ PySem.F.entry_list_extend (PySem.F.args_list_extend_2 _ _)
      (PySem.AutoSeq1.list_extend_list_list_0 a ws.toArray n b vs2.toArray m2 (by simp [Builtin.List.listTooLong, sizeLine]; intro _; omega) (by rw [List.size_toArray, sizeLine_eq]; omega) (by rw [List.size_toArray, List.size_toArray, sizeLine_eq]; omega)) ⟨ha, hb, ?_⟩
    obtain ⟨o', h1, h2⟩ := isL_update (fun x => x ++ vs2.toArray) ha
    exact own_list W hφ hO (Heap.SameBut.update ..) h1 (vs' := ws ++ vs2) (by simpa using h2) (VDs.append Vf.toD Vl) (.f .none)
  · refine i1 h fun q h => m1 (P := fun y => wpAny (model pw w) A (call (.builtin (lid m)) (.ref a :: vs)) (fun v s' => Out w g c v y.1 (c.H.set k (.lst y.2)) s') Ef c.s) h fun x hx => ?_
    rw [List.isEmpty_iff.mp q] at Vs
    obtain rfl : vs = [] := Vs.inv
    rw [show lid m = "list.pop" from (if_neg n1).trans ((if_neg n2).trans (if_pos e))]
    obtain ⟨p, y, rfl, V1, V2⟩ := last_split l Vl hx
    have hk : (p ++ [y]).toArray.size - 1 = p.length := by rw [List.size_toArray, List.length_append]; rfl
    have hy : (p ++ [y]).toArray[(p ++ [y]).toArray.size - 1]? = some y := by rw [hk]; simp
    refine call_meets PySem.F.slot_list_pop ⟨_, ha, rfl⟩ PySem.F.entry_list_pop (PySem.F.args_list_pop_1 _) (PySem.MeetsSeq.list_pop_last a _ n y hy (by rw [List.size_toArray, sizeLine_eq]; omega)) ⟨ha, ?_⟩
    obtain ⟨o', h1, h2⟩ := isL_update (fun x => x.eraseIdxIfInBounds ((p ++ [y]).toArray.size - 1)) ha
    exact own_list W hφ hO (Heap.SameBut.update ..) h1 (vs' := p) (by rw [hk, kl_erase p [] y, List.append_nil] at h2; simpa using h2) V1 V2
  · refine b1 h fun x hx h => b1 h fun z hz h => i1 h fun hz0 h => ?_
    cases h
    rw [two_eq hx] at Vs
    obtain ⟨vi, vx, rfl, Vi, Vx⟩ := Vs.two
    obtain ⟨t, rfl⟩ := dInt_ok Vi hz
    rw [show lid m = "list.insert" from (if_neg n1).trans ((if_neg n2).trans (if_neg n3))]
    have hf : Builtin.List.listFitsIndex z = true := by
      unfold Builtin.List.listFitsIndex
      simp only [Bool.and_eq_true, decide_eq_true_eq]
      constructor <;> omega
    have hz : ws.toArray.size ≤ sizeLine := by rw [List.size_toArray, sizeLine_eq]; omega
    have hc : ¬ (!Builtin.List.listFitsIndex z) = true := by rw [hf]; exact Bool.false_ne_true
    refine call_meets PySem.F.slot_list_insert ⟨_, ha, rfl⟩ PySem.F.entry_list_insert (PySem.F.args_list_insert_3 _ _ _) (PySem.AutoSeq1.list_insert_list_int_val_1 a ws.toArray n z t vx hc hz) ⟨ha, ?_⟩
    have e : (if z < 0 then (z + (ws.toArray.size : Int)).toNat else min z.toNat ws.toArray.size) = ws.length := by
      rw [if_neg (by omega), List.size_toArray, hlen]; omega
    obtain ⟨o', h1, h2⟩ := isL_update (fun xs => have k := if z < 0 then (z + (xs.size : Int)).toNat else min z.toNat xs.size; (xs.extract 0 k).push vx ++ xs.extract k) ha
    exact own_list W hφ hO (Heap.SameBut.update ..) h1 (vs' := ws ++ [vx]) (by
      dsimp only at h2
      rw [e, kl_ins_eq] at h2
      simpa using h2) (VDs.append (.cons Vx .nil) Vl) (.f .none)
theorem getM_list {v : Value} {k : Nat} {l : List D} {m : Str} {Q : Value × List Value → Shared → Prop} {pl : Sem Bool} (O : OwnAt w c v k l) (h : isLM m = true) (hq : Q (.builtin (lid m), [v]) c.s) : wpAny (model pw w) A (getMethod v m pl) Q Ef c.s := by
  obtain ⟨a, ws, n, rfl, hφ, hO, ha, Vl⟩ := O
  have go : ∀ {id}, Slot "list" m id → typeOf (.builtin id) = pure (.type "method_descriptor") → lid m = id → wpAny (model pw w) A (getMethod (.ref a) m pl) Q Ef c.s := fun slot hty e =>
    getMethod_builtin ⟨_, ha, rfl⟩ PySem.F.plainAttrs_list slot hty (fun a e => by cases e; exact ⟨_, ha, rfl⟩) (e ▸ hq)
  simp only [isLM, Bool.or_eq_true, beq_iff_eq] at h
  rcases h with ((h | h) | h) | h <;> subst h
  · exact go PySem.F.slot_list_append PySem.F.type_list_append rfl
  · exact go PySem.F.slot_list_extend PySem.F.type_list_extend rfl
  · exact go PySem.F.slot_list_pop PySem.F.type_list_pop rfl
  · exact go PySem.F.slot_list_insert PySem.F.type_list_insert rfl
end
end Mine

end
noncomputable section
set_option Elab.async false
set_option maxRecDepth 100000
set_option maxHeartbeats 1000000
set_option linter.unusedVariables false
/-! arguments bound -/
open PySem PySem.W PySem.Spec PySem.Calls PyProof.Rows
namespace Mine
structure PlainP (fd : FuncData) (ps : List Str) : Prop where
  po : fd.params.posonlyargs = []
  ar : fd.params.args.map (·.arg) = ps
  kw : fd.params.kwonlyargs = []
  va : fd.params.vararg = none
  ka : fd.params.kwarg = none
  nd : ps.Nodup
theorem lookup_none {l : List (Str × Value)} {x : Str} : (l.lookup x).isNone = true ↔ x ∉ l.map (·.1) := by
  induction l with
  | nil => simp
  | cons e r ih =>
    obtain ⟨y, v⟩ := e
    rw [List.lookup_cons, List.map_cons, List.mem_cons]
    by_cases h : x = y
    · subst h; simp
    · have : (x == y) = false := beq_eq_false_iff_ne.mpr h
      rw [this]; simp only [h, false_or]; exact ih
noncomputable def stepB (acc : List (Str × Value)) (x : Str × Value) : List (Str × Value) := if (acc.lookup x.1).isNone = true then acc ++ [x] else acc
theorem loopB (l acc : List (Str × Value)) :
    (forIn l acc fun (x : Str × Value) (s : List (Str × Value)) => if (List.lookup x.fst s).isNone = true then (pure (ForInStep.yield (s ++ [(x.fst, x.snd)])) : Sem (ForInStep (List (Str × Value)))) else pure (ForInStep.yield s)) = pure (l.foldl stepB acc) := by
  induction l generalizing acc with
  | nil => rfl
  | cons e r ih =>
    rw [List.forIn_cons, List.foldl_cons, ← ih]
    unfold stepB
    split <;> simp only [pure_bind]
theorem fold_in : ∀ {l acc : List (Str × Value)}, (∀ x ∈ l, x.1 ∈ acc.map (·.1)) → l.foldl stepB acc = acc
  | [], acc, _ => rfl
  | e :: r, acc, h => by
    have : ¬ (acc.lookup e.1).isNone = true := fun q => lookup_none.mp q (h e (.head _))
    rw [List.foldl_cons, stepB, if_neg this]
    exact fold_in fun x hx => h x (.tail _ hx)
theorem fold_new : ∀ {l acc : List (Str × Value)}, (∀ x ∈ l, x.1 ∉ acc.map (·.1)) → (l.map (·.1)).Nodup → l.foldl stepB acc = acc ++ l
  | [], acc, _, _ => by simp
  | e :: r, acc, h, n => by
    have n' := List.nodup_cons.mp (by simpa using n : (e.1 :: r.map (·.1)).Nodup)
    rw [List.foldl_cons, stepB, if_pos (lookup_none.mpr (h e (.head _)))]
    rw [fold_new (fun x hx => ?_) n'.2]
    · simp
    · rw [List.map_append, List.mem_append]
      rintro (q | q)
      · exact h x (.tail _ hx) q
      · simp at q; exact n'.1 (q ▸ List.mem_map.mpr ⟨x, hx, rfl⟩)
theorem filterMap_same {α β : Type} {f g : α → Option β} : ∀ {l : List α}, (∀ x ∈ l, f x = g x) → l.filterMap f = l.filterMap g
  | [], _ => rfl
  | a :: l, h => by rw [List.filterMap_cons, List.filterMap_cons, h a (.head _), filterMap_same fun x hx => h x (.tail _ hx)]
theorem zip_take : ∀ {ps : List Str} {vs : List Value}, ps.zip vs = (ps.take vs.length).zip vs
  | [], vs => by simp
  | _ :: _, [] => by simp
  | p :: ps, v :: vs => by rw [List.length_cons, List.take_succ_cons, List.zip_cons_cons, List.zip_cons_cons, zip_take]
theorem zip_split : ∀ {ps : List Str} {vs ws : List Value}, vs.length ≤ ps.length → ps.zip (vs ++ ws) = ps.zip vs ++ (ps.drop vs.length).zip ws
  | ps, [], ws, _ => by simp
  | [], _ :: _, ws, h => by simp at h
  | p :: ps, v :: vs, ws, h => by rw [List.cons_append, List.zip_cons_cons, List.zip_cons_cons, zip_split (by simpa using h)]; rfl
theorem pick_names : ∀ {ps : List Str} {vs : List Value}, ps.Nodup → ps.length = vs.length → ps.filterMap (fun n => ((ps.zip vs).lookup n).map fun x => (n, x)) = ps.zip vs
  | [], [], _, _ => rfl
  | p :: ps, v :: vs, n, h => by
    obtain ⟨n1, n2⟩ := List.nodup_cons.mp n
    rw [List.zip_cons_cons, List.filterMap_cons]
    simp only [List.lookup_cons, beq_self_eq_true, Option.map_some]
    congr 1
    refine (filterMap_same fun x hx => ?_).trans (pick_names n2 (by simpa using h))
    have : (x == p) = false := beq_eq_false_iff_ne.mpr fun e => n1 (e ▸ hx)
    rw [this]

theorem bind_ok {s : Shared} {fd : FuncData} {ps : List Str} {vals : List Value} {items : Option (Array Value)} (P : PlainP fd ps)
    (hd : ∀ (M : Model) (A : Around) (E : Value → Shared → Prop) (Q : Option (Array Value) → Shared → Prop), Q items s → wpAny M A (seqItems? fd.defaults) Q E s)
    (h1 : vals.length ≤ ps.length) (h2 : ps.length ≤ vals.length + (items.getD #[]).size) (h3 : (items.getD #[]).size ≤ ps.length) :
    BindsTo s fd ⟨vals, []⟩ (ps.zip (vals ++ (items.getD #[]).toList.drop (vals.length + (items.getD #[]).size - ps.length))) := by
  intro M A E Q q
  unfold bindArgs
  simp only [P.po, P.ar, P.kw, P.va, P.ka, List.map_nil, List.nil_append, List.append_nil, List.forIn_nil, pure_bind]
  refine wpAny_bind (hd _ _ _ _ ?_)
  revert h2 h3 q
  generalize (items.getD #[]) = dl
  obtain ⟨dl⟩ := dl
  intro h2 h3 q
  simp only [List.size_toArray] at h2 h3 q
  have e0 : dl.length - ps.length = 0 := by omega
  have nz : (ps.zip vals).map (·.1) = ps.take vals.length := by
    rw [zip_take, List.map_fst_zip (by simp; omega)]
  rw [if_neg (by simp; omega)]
  simp only [e0, List.drop_zero]
  have miss : (List.filter (fun n => (List.lookup n (ps.zip vals)).isNone) (List.take (ps.length - dl.length) ps)) = [] := by
    rw [List.filter_eq_nil_iff]
    intro x hx h
    have := lookup_none.mp h
    rw [nz] at this
    exact this (List.take_subset_take_left ps (by omega) hx)
  rw [if_neg (by rw [miss]; simp)]
  rw [loopB]
  have ep : ps.drop (ps.length - dl.length) = (ps.take vals.length).drop (ps.length - dl.length) ++ ps.drop vals.length := by
    have := List.drop_append_of_le_length (l₁ := ps.take vals.length) (l₂ := ps.drop vals.length) (i := ps.length - dl.length) (by simp; omega)
    rw [List.take_append_drop] at this; exact this
  have ez : (ps.drop (ps.length - dl.length)).zip dl = ((ps.take vals.length).drop (ps.length - dl.length)).zip (dl.take (vals.length + dl.length - ps.length)) ++ (ps.drop vals.length).zip (dl.drop (vals.length + dl.length - ps.length)) := by
    have := List.zip_append (l₁ := (ps.take vals.length).drop (ps.length - dl.length)) (r₁ := ps.drop vals.length) (l₂ := dl.take (vals.length + dl.length - ps.length)) (r₂ := dl.drop (vals.length + dl.length - ps.length)) (by simp; omega)
    rw [← ep, List.take_append_drop] at this; exact this
  have fin : ((ps.drop (ps.length - dl.length)).zip dl).foldl stepB (ps.zip vals) = ps.zip (vals ++ dl.drop (vals.length + dl.length - ps.length)) := by
    have nd := P.nd
    rw [← List.take_append_drop vals.length ps, List.nodup_append] at nd
    have f1 := fold_in (l := ((ps.take vals.length).drop (ps.length - dl.length)).zip (dl.take (vals.length + dl.length - ps.length))) (acc := ps.zip vals) (fun x hx => by
      rw [nz]; exact List.mem_of_mem_drop (List.of_mem_zip hx).1)
    have f2 := fold_new (l := (ps.drop vals.length).zip (dl.drop (vals.length + dl.length - ps.length))) (acc := ps.zip vals) (fun x hx => by
      rw [nz]
      intro q
      exact nd.2.2 _ q _ (List.of_mem_zip hx).1 rfl) (by rw [List.map_fst_zip (by simp; omega)]; exact nd.2.1)
    rw [ez, List.foldl_append, f1, f2, zip_split h1]
  rw [fin]
  refine wpAny_bind (wpAny_pure ?_)
  rw [if_neg (by simp)]
  rw [pick_names P.nd (by simp; omega)]
  exact wpAny_pure q
end Mine

end
noncomputable section
set_option Elab.async false
set_option maxRecDepth 100000
set_option maxHeartbeats 1000000
set_option linter.unusedVariables false
/-! calls of the text's own defs -/
open PySem PySem.W PySem.Spec PySem.Calls PyProof.Rows
open PySem.SeqAt
namespace Mine
/-- what a def leaves behind -/
noncomputable def valF : Flow → Value | .ret v => v | _ => .none
/-- what the heap's written part says of a def -/
structure FnOk (w : World) (g : Heap) (K : Frag) (f : Fn) : Prop where
  obj : ∃ oc od osl fd, K.lookup f.addr = some ⟨oc, od, .func fd, osl⟩ ∧ PlainP fd (paramsOf f.text) ∧ fd.body = .stmts f.text.2.1 ∧ fd.scope = f.text.2.2 ∧ fd.globals = mainGlobals ∧ fd.closure = [] ∧ fd.builtins = builtinsNs ∧
    codeIn K fd.code fd.qualname = true ∧ ((f.dflt = [] ∧ fd.defaults = .none) ∨ ∃ Ta To items m, fd.defaults = .ref Ta ∧ g.get? Ta = some To ∧ To.data = .seq items m ∧ VFs w (heldBy g) items.toList f.dflt)
  kd : f.text.2.2.kind = .function
  co : f.text.2.2.isCoroutine = false
  ge : f.text.2.2.isGenerator = false
  dl : f.dflt.length ≤ (paramsOf f.text).length
  pk : ∀ x ∈ paramsOf f.text, f.text.2.2.names.lookup x = some .local ∨ f.text.2.2.names.lookup x = some .cell
  nn : (f.text.2.2.names.map (·.1)).Nodup
section
variable {w : World} {g : Heap} {c : Cf} {A : Around} {env : Env} {sc : Sc} {ρ : Rho} {T : Tabs} {R : Rec} {n : Nat} {mg mb : Str → Option Value} {K : Frag}

theorem cellsFrom_has : ∀ {names : List (Str × NameKind)} {m : Nat} {acc : List (Str × Addr)} {x : Str}, ((x, NameKind.cell) ∈ names ∨ (acc.lookup x).isSome = true) → ((cellsFrom m names acc).lookup x).isSome = true
  | [], m, acc, x, h => by rcases h with h | h; cases h; exact h
  | (y, k) :: r, m, acc, x, h => by
    unfold cellsFrom
    split
    · rename_i q
      refine cellsFrom_has (h.elim (fun h => ?_) fun h => .inr ?_)
      · rcases List.mem_cons.mp h with e | h
        · cases e; exact .inr (by simp)
        · exact .inl h
      · rw [List.lookup_cons]
        split
        · rfl
        · exact h
    · rename_i q
      refine cellsFrom_has (h.elim (fun h => ?_) .inr)
      rcases List.mem_cons.mp h with e | h
      · cases e; simp at q
      · exact .inl h
theorem cellsFrom_names : ∀ {names : List (Str × NameKind)} {m : Nat} {acc : List (Str × Addr)} {x : Str} {a : Addr}, (x, a) ∈ cellsFrom m names acc → (x, NameKind.cell) ∈ names ∨ (x, a) ∈ acc
  | [], m, acc, x, a, h => .inr h
  | (y, k) :: r, m, acc, x, a, h => by
    unfold cellsFrom at h
    split at h
    · rename_i q
      rcases cellsFrom_names h with h | h
      · exact .inl (.tail _ h)
      · rcases List.mem_cons.mp h with e | h
        · cases e; rw [beq_iff_eq] at q; subst q; exact .inl (.head _)
        · exact .inr h
    · exact (cellsFrom_names h).imp (.tail _) id
theorem cellsFrom_nodup : ∀ {names : List (Str × NameKind)} {m : Nat} {acc : List (Str × Addr)}, (names.map (·.1)).Nodup → (acc.map (·.1)).Nodup → (∀ x ∈ acc.map (·.1), x ∉ names.map (·.1)) → ((cellsFrom m names acc).map (·.1)).Nodup
  | [], m, acc, h1, h2, h3 => h2
  | (y, k) :: r, m, acc, h1, h2, h3 => by
    obtain ⟨n1, n2⟩ := List.nodup_cons.mp h1
    unfold cellsFrom
    split
    · refine cellsFrom_nodup n2 (List.nodup_cons.mpr ⟨fun q => h3 _ q (.head _), h2⟩) fun x hx => ?_
      rcases List.mem_cons.mp hx with rfl | hx
      · exact n1
      · exact fun q => h3 _ hx (.tail _ q)
    · exact cellsFrom_nodup n2 h2 fun x hx q => h3 _ hx (.tail _ q)
theorem lookup_of_mem {α : Type} : ∀ {l : List (Str × α)} {x : Str} {a : α}, (l.map (·.1)).Nodup → (x, a) ∈ l → l.lookup x = some a
  | (y, b) :: r, x, a, n, h => by
    obtain ⟨n1, n2⟩ := List.nodup_cons.mp n
    rw [List.lookup_cons]
    rcases List.mem_cons.mp h with e | h
    · cases e; simp
    · have : (x == y) = false := beq_eq_false_iff_ne.mpr fun e => n1 (e ▸ List.mem_map.mpr ⟨_, h, rfl⟩)
      rw [this]; exact lookup_of_mem n2 h

theorem bindL_other {kind : Str → Option NameKind} : ∀ {l : List (Str × Value)} {m : Str → Option Value} {x : Str}, x ∉ l.map (·.1) → bindL kind l m x = m x
  | [], m, x, h => rfl
  | (y, v) :: r, m, x, h => by
    unfold bindL
    rw [bindL_other fun q => h (.tail _ q)]
    split
    · exact if_neg fun (e : x = y) => h (e ▸ .head _)
    · rfl
theorem bindC_other {kind : Str → Option NameKind} : ∀ {l : List (Str × Value)} {m : Str → Option Value} {x : Str}, x ∉ l.map (·.1) → bindC kind l m x = m x
  | [], m, x, h => rfl
  | (y, v) :: r, m, x, h => by
    unfold bindC
    rw [bindC_other fun q => h (.tail _ q)]
    split
    · rfl
    · exact if_neg fun (e : x = y) => h (e ▸ .head _)
theorem bindL_get {kind : Str → Option NameKind} : ∀ {l : List (Str × Value)} {m : Str → Option Value} {x : Str} {v : Value}, (l.map (·.1)).Nodup → l.lookup x = some v → kind x = some .local → bindL kind l m x = some v
  | (y, u) :: r, m, x, v, n, h, k => by
    obtain ⟨n1, n2⟩ := List.nodup_cons.mp n
    rw [List.lookup_cons] at h
    unfold bindL
    split at h
    · rename_i q; cases h
      have e := eq_of_beq q; subst e
      rw [bindL_other n1, if_pos k, if_pos rfl]
    · exact bindL_get n2 h k
theorem bindC_get {kind : Str → Option NameKind} : ∀ {l : List (Str × Value)} {m : Str → Option Value} {x : Str} {v : Value}, (l.map (·.1)).Nodup → l.lookup x = some v → kind x ≠ some .local → bindC kind l m x = some v
  | (y, u) :: r, m, x, v, n, h, k => by
    obtain ⟨n1, n2⟩ := List.nodup_cons.mp n
    rw [List.lookup_cons] at h
    unfold bindC
    split at h
    · rename_i q; cases h
      have e := eq_of_beq q; subst e
      rw [bindC_other n1, if_neg k, if_pos rfl]
    · exact bindC_get n2 h k

theorem zip_lookup {p : Pm} {φ : Phi} {x : Str} {d : D} (ps : List Str) : ∀ {vs : List Value} {ds : List D}, VDs w p φ vs ds → (ps.zip ds).lookup x = some d → ∃ v, (ps.zip vs).lookup x = some v ∧ VD w p φ v d := by
  induction ps with
  | nil => intro vs ds V h; exact nn h
  | cons q ps ih =>
    intro vs ds V h
    cases ds with
    | nil => exact nn h
    | cons d' ds =>
      obtain ⟨v, r, rfl, h1, h2⟩ := V.inv
      rw [List.zip_cons_cons, List.lookup_cons] at h ⊢
      cases hb : x == q with
      | true => rw [hb] at h; cases h; exact ⟨v, rfl, h1⟩
      | false => rw [hb] at h; exact ih h2 h

/-- the frame of a call -/
theorem enter_ok (GD : Gd w g T mg mb) (GK : Gk K g T) {f : Fn} (X : FnOk w g K f) (W : Wd w g c) {vs : List Value} {ds : List D} {ρ : Rho} (V : VDs w c.p c.φ vs ds) (hb : bindP f ds = some ρ) (hroom : A.depth < recursionLimit) {Rs : Result → Shared → Prop}
    (h : ∀ env (s1 : Shared), Wd w g ⟨c.p, c.φ, c.H, s1⟩ → Go [] c ⟨c.p, c.φ, c.H, s1⟩ → Fm w env f.text.2.2.names ρ ⟨c.p, c.φ, c.H, s1⟩ → (∀ a ∈ frm env, ¬ Al c.s a) → (∀ oc od osl fd, K.lookup f.addr = some ⟨oc, od, .func fd, osl⟩ → env.code = fd.code) →
      wpAny (model pw w) (A.deeper env) (execs f.text.2.1 env) (fun fl s' => Rs (.ok (.ret (valF fl))) s') Ef s1) :
    codeAny (model pw w) A (.call (.ref f.addr) ⟨vs, []⟩) Rs c.s := by
  obtain ⟨oc, od, osl, fd, hK, P, hbody, hsc, hgl, hclo, hblt, hcode, hdef⟩ := X.obj
  have KI := W.kin GK
  have ho := KI _ _ hK
  refine i1 hb fun q hb => ?_
  · cases hb
    simp only [Bool.and_eq_true, decide_eq_true_eq] at q
    have hlen := V.length
    have nd := P.nd
    -- the defaults
    have hdf : ∃ items : Option (Array Value), (∀ (M : Model) (A : Around) (E : Value → Shared → Prop) (Q : Option (Array Value) → Shared → Prop), Q items c.s → wpAny M A (seqItems? fd.defaults) Q E c.s) ∧ VFs w c.p (items.getD #[]).toList f.dflt := by
      rcases hdef with ⟨h1, h2⟩ | ⟨Ta, To, items, m, h1, h2, h3, h4⟩
      · refine ⟨none, fun M A E Q q => ?_, by rw [h1]; exact .nil⟩
        rw [h2]; exact wpAny_bind (wpAny_pure (wpAny_pure q))
      · refine ⟨some items, fun M A E Q q => ?_, h4.mono W.grd⟩
        rw [h1]
        refine wpAny_bind (wpAny_load (W.old _ _ h2) ?_)
        rw [h3]; exact wpAny_pure q
    obtain ⟨items, hd, Vd⟩ := hdf
    have hdl := Vd.length
    rw [Array.length_toList] at hdl
    have B := bind_ok (s := c.s) (vals := vs) P hd (by omega) (by omega) (by have := X.dl; omega)
    -- what is bound
    have VV : VDs w c.p c.φ (vs ++ (items.getD #[]).toList.drop (vs.length + (items.getD #[]).size - (paramsOf f.text).length)) (ds ++ dF (f.dflt.drop (ds.length + f.dflt.length - (paramsOf f.text).length))) := by
      rw [hlen, hdl]; exact VDs.append ((drop_ok _ Vd).toD) V
    generalize hB : (paramsOf f.text).zip (vs ++ (items.getD #[]).toList.drop (vs.length + (items.getD #[]).size - (paramsOf f.text).length)) = binds at B
    have nb : (binds.map (·.1)).Nodup := by
      rw [← hB, List.map_fst_zip (by simp; omega)]; exact nd
    have mb' : ∀ x ∈ binds, x.1 ∈ paramsOf f.text := fun x hx => (List.of_mem_zip (a := x.1) (b := x.2) (hB ▸ hx)).1
    refine codeAny_call_function hroom ho rfl (by rw [hsc]; exact X.co) (by rw [hsc]; exact X.ge) hbody (codeRec_of KI hcode) (B _ _ _ _ ?_)
    rw [hclo]
    refine wpAny_newFunctionEnv_cells (by rw [hsc]; exact X.kd) (fun x hx => ?_) fun env he s' I => ?_
    · rw [hsc]
      rcases X.pk _ (mb' x hx) with h1 | h1
      · exact .inl h1
      · exact .inr ⟨h1, cellsFrom_has (.inl (lookup_mem h1))⟩
    · have e1 : env.scope = f.text.2.2 := by rw [he]; exact hsc
      have e2 : env.globals = mainGlobals := by rw [he]; exact hgl
      have e3 : env.builtins = builtinsNs := by rw [he]; exact hblt
      have e4 : env.cells = cellsFrom (c.s.heap.objs.size + 1) f.text.2.2.names [] := by rw [he, ← hsc]; rfl
      have e5 : env.locals = c.s.heap.objs.size := by rw [he]; rfl
      have ek : ∀ x, env.kindOf x = f.text.2.2.names.lookup x := fun x => by unfold Env.kindOf; rw [e1]
      have nc : (env.cells.map (·.1)).Nodup := by rw [e4]; exact cellsFrom_nodup X.nn List.nodup_nil fun _ h => absurd h List.not_mem_nil
      obtain ⟨h', tk, rfl⟩ := I.toInCall.same
      obtain ⟨W1, G1⟩ := W.grow (s' := { c.s with heap := h', toks := tk }) I.toInCall.keep rfl
      have fresh : ∀ a ∈ frm env, c.s.heap.objs.size ≤ a := fun a m => by
        rcases List.mem_cons.mp m with rfl | m
        · exact I.toInCall.fresh
        · obtain ⟨⟨x, b⟩, hm, rfl⟩ := List.mem_map.mp m
          exact Nat.le_of_lt (Nat.lt_of_le_of_lt I.toInCall.fresh (I.above x b hm))
      have dead : ∀ a ∈ frm env, ¬ Al c.s a := fun a m ⟨o, q⟩ => absurd (Heap.lt_size q) (Nat.not_lt.mpr (fresh a m))
      refine ⟨(W.nolim GD).keeps I.toInCall.keep, codeAny_func ?_⟩
      rw [hbody] at *
      refine wpAny_mono (h env { c.s with heap := h', toks := tk } W1 G1 ?_ dead fun _ _ _ _ e => by rw [hK] at e; cases e; rw [he]; rfl) (fun _ _ q => q) fun _ _ q => q.elim
      refine ⟨by rw [e1]; exact X.kd, e2, e3, fun x q => by rw [ek]; exact q, fun x q => ⟨by rw [ek]; exact q, ?_⟩, fun x q => by rw [ek, q]; exact .inl rfl, fun x q => by rw [ek]; exact q, ?_, ?_, ?_, I.apart, ?_⟩
      · rw [e4]
        exact Option.isSome_iff_exists.mp (cellsFrom_has (.inl (lookup_mem q)))
      · refine ⟨_, I.toInCall.ns, fun x d q k => ?_⟩
        obtain ⟨v, hv, Vv⟩ := zip_lookup (paramsOf f.text) VV q
        exact ⟨v, bindL_get nb (hB ▸ hv) (by rw [ek]; exact k), Vv⟩
      · intro x d q k
        obtain ⟨v, hv, Vv⟩ := zip_lookup (paramsOf f.text) VV q
        have hk : f.text.2.2.names.lookup x = some .cell := by
          rcases k with k | k
          · exact k
          · have hx : x ∈ paramsOf f.text := mb' (x, v) (hB ▸ lookup_mem hv)
            rcases X.pk x hx with z | z <;> rw [k] at z <;> cases z
        obtain ⟨a, ha⟩ := Option.isSome_iff_exists.mp (cellsFrom_has (m := c.s.heap.objs.size + 1) (acc := []) (.inl (lookup_mem hk)))
        rw [← e4] at ha
        refine ⟨a, v, ha, ?_, Vv⟩
        have := I.cell x a ha
        rw [bindC_get nb (hB ▸ hv) (by rw [ek, hk]; exact fun z => nomatch z)] at this
        exact this
      · intro x a m
        exact ⟨⟨_, I.cell x a (lookup_of_mem nc m)⟩, Nat.ne_of_gt (I.above x a m)⟩
      · intro a m
        exact ⟨fun l => dead a m (W.lvlt l), fun o p => dead a m ⟨_, W.sub a o p⟩⟩
end
end Mine

end
noncomputable section
set_option Elab.async false
set_option maxRecDepth 100000
set_option maxHeartbeats 1000000
set_option linter.unusedVariables false
/-! calls -/
open PySem PySem.W PySem.Spec PySem.Calls PyProof.Rows
open PySem.SeqAt
namespace Mine
section
variable {w : World} {g : Heap} {c : Cf} {A : Around} {T : Tabs} {R : Rec} {n : Nat} {mg mb : Str → Option Value} {K : Frag}
/-- a call's result -/
noncomputable def OutR (w : World) (g : Heap) (c : Cf) (d : D) (H' : Hp) (r : Result) (s' : Shared) : Prop := ∃ v, r = .ok (.ret v) ∧ Out w g c v d H' s'
theorem OutR.call {f : Value} {vs : List Value} {d : D} {H' : Hp} (h : codeAny (model pw w) A (.call f ⟨vs, []⟩) (OutR w g c d H') c.s) : wpAny (model pw w) A (call f vs) (fun v s' => Out w g c v d H' s') Ef c.s :=
  wpAny_call (codeAny_mono h fun r s' z => let ⟨v, e, o⟩ := z; e ▸ o)
noncomputable def Rq (A : Around) (n : Nat) : Prop := A.depth + 5 + 10 * n < 990 ∧ A.units + 50 + 100 * n < 9800 ∧ A.handled = none
theorem Rm.q (h : Rm A (n + 1)) : Rq A n := ⟨by have := h.1; omega, by have := h.2.1; omega, h.2.2⟩
theorem tcall_weight (a : Addr) (rest : List Value) (kw : List (Str × Value)) : (Code.builtin "type.__call__" ⟨.ref a :: rest, kw⟩).weight = 1 ∧ (Code.builtin "type.__call__" ⟨.ref a :: rest, kw⟩).cUnits = 1 := ⟨by kernel_rfl, by kernel_rfl⟩
theorem Rm.under (h : Rm A (n + 1)) (a : Addr) (rest : List Value) (kw : List (Str × Value)) : Rq (A.under (.builtin "type.__call__" ⟨.ref a :: rest, kw⟩)) n := by
  obtain ⟨h1, h2⟩ := tcall_weight a rest kw
  refine ⟨?_, ?_, h.2.2⟩
  · have := h.1; show A.depth + _ + 5 + 10 * n < 990; rw [h1]; omega
  · have := h.2.1; show A.units + (Code.builtin "type.__call__" _).cUnits + 50 + 100 * n < 9800; rw [h2]; omega
theorem Rq.deep {env : Env} (h : Rq A n) : Rm (A.deeper env) n := ⟨by have := h.1; show A.depth + 1 + 10 * n < 990; omega, by have := h.2.1; show A.units + 3 + 100 * n < 9800; omega, h.2.2⟩

/-- back from a run over data that stay as they are -/
theorem lv0 {a : Addr} (h : Lv ([] : Phi) ([] : Hp) a) : a = 112 := h.elim id fun ⟨k, x, O, h1, _⟩ => nn h1
theorem pure_back {c1 : Cf} {p3 : Pm} {φ3 : Phi} {H3 : Hp} {s3 : Shared} (W1 : Wd w g c1) (W3 : Wd w g ⟨p3, φ3, H3, s3⟩) (G3 : Go [] ⟨c1.p, [], [], c1.s⟩ ⟨p3, φ3, H3, s3⟩) :
    Wd w g ⟨p3, c1.φ, c1.H, s3⟩ ∧ Go [] c1 ⟨p3, c1.φ, c1.H, s3⟩ := by
  refine ⟨⟨W3.sub, W3.grd, W1.len, W1.nd, W1.ne, W1.no, fun k x a h m => G3.sz a (W1.lt k x a h m), fun a o h p => ?_, fun k x O h1 h2 => (W1.tr k x O h1 h2).mono G3.ps (List.prefix_refl _) fun hf a m o e => G3.kp a o e (fun l => W1.no k x h1 (lv0 l ▸ m)) List.not_mem_nil, W3.tab⟩,
    ⟨G3.ps, fun a o h => (G3.pn a o h).imp id (Or.imp id fun q => .inl (lv0 q)), List.prefix_refl _, fun a o e hl hx => G3.kp a o e (fun l => hl (.inl (lv0 l))) hx, fun a h => .inl h, G3.sz, G3.st, fun a h => .inl h⟩⟩
  rcases G3.pn a o p with q | q | q
  · exact W1.np a o h q
  · exact q (W1.lvlt h)
  · exact W3.np a o (.inl (lv0 q)) p
theorem pure_enter {p : Pm} {φ : Phi} {H : Hp} {s : Shared} (W1 : Wd w g ⟨p, φ, H, s⟩) : Wd w g ⟨p, [], [], s⟩ :=
  ⟨W1.sub, W1.grd, rfl, fun _ _ _ _ _ h => nn h, fun _ _ _ h => nn h, fun _ _ h => nn h, fun _ _ _ h => nn h, fun a o h => W1.np a o (.inl (lv0 h)), fun _ _ _ h => nn h, W1.tab⟩
/-- the one def that makes a def: sorted over nothing -/
noncomputable def SortOk (w : World) (g : Heap) : Prop := ∀ (A : Around) (c : Cf) (v : Value) (d : D), A.depth < 985 → A.units < 9750 → A.handled = none → Wd w g c → VD w c.p c.φ v d → asLst d c.H = some [] → codeAny (model pw w) A (.call (.ref 115) ⟨[v], []⟩) (OutR w g c (.f (.lst [])) c.H) c.s
theorem retOf_eq {fl : Fl} {d : D} (h : retOf fl = some d) : fl = .ret d := by cases fl with | ret x => cases h; rfl | _ => exact nn h
theorem endOf_ok {fl : Fl} {f : Flow} {d : D} {p : Pm} {φ : Phi} (h : endOf fl = some d) (F : FlR w p φ f fl) : VD w p φ (valF f) d := by
  cases F with
  | next => cases h; exact .f .none
  | ret V => cases h; exact V
  | _ => exact nn h
section
variable (GD : Gd w g T mg mb) (GK : Gk K g T) (SO : SortOk w g)
include GD GK
theorem run_ok {f : Fn} (X : FnOk w g K f) (RS : RS w g n R) (hr : Rq A n) (W : Wd w g c) {vs : List Value} {ds : List D} {ρ ρ' : Rho} {fl : Fl} {H' : Hp} (V : VDs w c.p c.φ vs ds) (hb : bindP f ds = some ρ) (h : R.st f.text.2.2.names f.text.2.1 ρ c.H = some (fl, ρ', H')) {Q : Result → Shared → Prop}
    (k : ∀ p φ s' f, Wd w g ⟨p, φ, H', s'⟩ → Go [] c ⟨p, φ, H', s'⟩ → FlR w p φ f fl → Q (.ok (.ret (valF f))) s') : codeAny (model pw w) A (.call (.ref f.addr) ⟨vs, []⟩) Q c.s :=
  enter_ok GD GK X W V hb (by have := hr.1; show A.depth < 1000; omega) fun env s1 W2 G2 F2 dead _ =>
    wpOut (RS.st (A.deeper env) env _ _ ρ _ _ _ _ hr.deep W2 F2 h) fun fl s' o => let ⟨W3, G3, Fl, _⟩ := o; k _ _ _ _ W3 ((G2.toX.trans G3).fresh dead) Fl
include SO
theorem callFn_ok {f : Fn} (X : FnOk w g K f) (RS : RS w g n R) (hr : Rq A n) (W : Wd w g c) {vs : List Value} {ds : List D} {d : D} {H' : Hp} (V : VDs w c.p c.φ vs ds) (h : callFn R f ds c.H = some (d, H')) : codeAny (model pw w) A (.call (.ref f.addr) ⟨vs, []⟩) (OutR w g c d H') c.s := by
  refine i2 h (fun e h => b1 h fun d0 q h => b1 h fun l hl h => i1 h fun q2 h => ?_) fun _ h => ?_
  · cases h
    rw [one_eq q] at V
    obtain ⟨v, rfl, V1⟩ := V.one
    rw [List.isEmpty_iff.mp q2] at hl
    rw [e]
    exact SO A c v _ (by have := hr.1; omega) (by have := hr.2.1; omega) hr.2.2 W V1 hl
  · cases hp : f.pure with
    | false =>
      rw [hp] at h
      exact b1 h fun ρ hb h => b1 h fun r hst h => mP (P := fun d H' => codeAny (model pw w) A (.call (.ref f.addr) ⟨vs, []⟩) (OutR w g c d H') c.s) h fun d0 hd => run_ok GD GK X RS hr W V hb hst fun p φ s' f W3 G3 Fl => ⟨_, rfl, W3, G3, endOf_ok hd Fl⟩
    | true =>
      rw [hp] at h
      refine bE h fun fs H1 h1 h => b1 h fun ρ hb h => b1 h fun r hst h => b1 h fun d0 hd h => mP (P := fun d H' => codeAny (model pw w) A (.call (.ref f.addr) ⟨vs, []⟩) (OutR w g c d H') c.s) h fun y hy => ?_
      obtain ⟨W1, G1, V1⟩ := fzl_ok W V h1
      refine run_ok (c := ⟨_, [], [], c.s⟩) GD GK X RS hr (pure_enter W1) V1.toD hb hst fun p φ s' fl W3 G3 Fl => ?_
      rw [retOf_eq hd] at Fl
      cases Fl with
      | ret V3 =>
        obtain ⟨W4, G4, V4⟩ := fz_ok _ _ d0 _ _ _ W3 V3 hy
        obtain ⟨W5, G5⟩ := pure_back W1 W4 (G3.trans G4)
        exact ⟨_, rfl, W5, G1.trans G5, .f V4⟩
theorem callCls_ok {cl : Cl} (X : ClOk K cl) (XF : ∀ m f, cl.meths.lookup m = some f → FnOk w g K f) (RS : RS w g n R) (hr : Rm A (n + 1)) (W : Wd w g c) {vs : List Value} {ds : List D} {d : D} {H' : Hp}
    (V : VDs w c.p c.φ vs ds) (h : callCls R cl ds c.H = some (d, H')) : codeAny (model pw w) A (.call (.ref cl.addr) ⟨vs, []⟩) (OutR w g c d H') c.s :=
  b1 h fun f hf h => bE h fun d0 H1 h1 h => i1 h fun e h => by
    cases h
    have KI := W.kin GK
    obtain ⟨m1, m2⟩ := X.me _ _ hf
    have k : ∀ b o, c.s.heap.get? b = some o → ((c.s.heap.push emptyDict).push (instObj cl.addr c.s.heap.objs.size)).get? b = some o := fun b o e => Heap.get?_push_of_some _ (Heap.get?_push_of_some _ e)
    have hx : ((c.s.heap.push emptyDict).push (instObj cl.addr c.s.heap.objs.size)).get? (c.s.heap.objs.size + 1) = some (instObj cl.addr c.s.heap.objs.size) := by
      have := Heap.get?_push_size (c.s.heap.push emptyDict) (o := instObj cl.addr c.s.heap.objs.size) rfl
      rwa [Heap.size_push] at this
    have hd : ((c.s.heap.push emptyDict).push (instObj cl.addr c.s.heap.objs.size)).get? c.s.heap.objs.size = some emptyDict := Heap.get?_push_of_some _ (Heap.get?_push_size _ rfl)
    have nal : ¬ Al c.s (c.s.heap.objs.size + 1) := fun ⟨o, q⟩ => Nat.lt_irrefl _ (Nat.lt_trans (Nat.lt_succ_self _) (Heap.lt_size q))
    have two : ∀ {P : Addr → Prop}, P (c.s.heap.objs.size + 1) → P c.s.heap.objs.size → ∀ a ∈ adr (c.s.heap.objs.size + 1, some c.s.heap.objs.size), P a := fun h1 h2 a m => (List.mem_cons.mp m).elim (fun e => e ▸ h1) fun m => List.mem_singleton.mp m ▸ h2
    obtain ⟨W1, G1⟩ := W.own (s' := { c.s with heap := (c.s.heap.push emptyDict).push (instObj cl.addr c.s.heap.objs.size) }) (x := (c.s.heap.objs.size + 1, some c.s.heap.objs.size)) (O := .ins cl.addr []) k rfl
      (two nal (noAl _)) (two ⟨_, hx⟩ ⟨_, hd⟩) (fun dx e => by cases e; exact Nat.succ_ne_self _) (.ins hx ⟨_, rfl⟩ hd ⟨0, rfl⟩ .nil)
    have hl : (c.φ ++ [(c.s.heap.objs.size + 1, some c.s.heap.objs.size)])[c.H.length]? = some (c.s.heap.objs.size + 1, some c.s.heap.objs.size) := by rw [← W.len]; exact snoc_get
    have V1 : VDs w c.p (c.φ ++ [(c.s.heap.objs.size + 1, some c.s.heap.objs.size)]) (.ref (c.s.heap.objs.size + 1) :: vs) (.own c.H.length :: ds) :=
      .cons (VD.own (x := (c.s.heap.objs.size + 1, some c.s.heap.objs.size)) hl) (V.mono (fun _ _ h => h) (List.prefix_append _ _))
    have := callFn_ok GD GK SO (XF _ _ hf) RS (hr.under cl.addr vs []) W1 (vs := .ref (c.s.heap.objs.size + 1) :: vs) (ds := .own c.H.length :: ds) V1 h1
    have mc := make_core (prog := pw) (w := w) (A := A) (R := OutR w g c (.own c.H.length) H1) (h := c.s.heap) (g := c.s.gens) (d := c.s.drawn) (t := c.s.toks) (os := c.s.os) (rest := vs) (kw := []) (makes_of KI X.mks) (looks_findIn KI m1) (fun self => bind_fn KI self m2) (.inl rfl)
    refine mc (codeAny_mono this fun r s' z => ?_)
    obtain ⟨v, rfl, W2, G2, V2⟩ := z
    exact ⟨dNone_ok V2 e, _, rfl, W2, G1.trans G2, VD.own (x := (c.s.heap.objs.size + 1, some c.s.heap.objs.size)) (pref_get G2.fs hl)⟩
end
end
end Mine

end
noncomputable section
set_option Elab.async false
set_option maxRecDepth 100000
set_option maxHeartbeats 1000000
set_option linter.unusedVariables false
/-! calls, as they are written -/
open PySem PySem.W PySem.Spec PySem.Calls PyProof.Rows
open PySem.SeqAt
namespace Mine
structure Gf (w : World) (g : Heap) (K : Frag) (T : Tabs) : Prop where
  fns : ∀ a f, T.fns a = some f → f.addr = a ∧ FnOk w g K f
  mfn : ∀ a cl m f, T.cls a = some cl → cl.meths.lookup m = some f → FnOk w g K f
  en : T.gl "enumerate" = some (.glob (.type "enumerate"))
  zp : T.gl "zip" = some (.glob (.type "zip"))
section
variable {w : World} {g : Heap} {c : Cf} {A : Around} {env : Env} {sc : Sc} {ρ : Rho} {T : Tabs} {R : Rec} {n : Nat} {mg mb : Str → Option Value} {K : Frag}
theorem FnOk.keep {f : Fn} (X : FnOk w g K f) : keepIn K (.ref f.addr) = true := by
  obtain ⟨oc, od, osl, fd, hK, _⟩ := X.obj
  simp only [keepIn, hK]
noncomputable def noStars (es : List Expr) : Bool := es.all fun e => !isStar e
theorem mapE_stars {f : Expr → Hp → Option (D × Hp)} (es : List Expr) : ∀ {H : Hp} {r : List D × Hp}, mapE f es H = some r → noStars es = true := by
  induction es with
  | nil => exact fun _ => rfl
  | cons e es ih =>
    intro H r h
    refine i0 h fun q h => bE h fun d H1 h1 h => m1 (P := fun _ => noStars (e :: es) = true) h fun x h2 => ?_
    show (!isStar e && noStars es) = true
    rw [ih h2, (Bool.not_eq_true _).mp q]; rfl
theorem back_plain {pos : Pos} (es : List Expr) (h : noStars es = true) : (backTo pos (starEach es env)).any (·.1) = false ∧ (backTo pos (starEach es env)).all (fun x => !x.1) = true := by
  induction es with
  | nil => exact ⟨rfl, rfl⟩
  | cons e r ih =>
    have h := Bool.and_eq_true_iff.mp (show (!isStar e && noStars r) = true from h)
    rw [star_plain ((Bool.not_eq_true' _).mp h.1)]
    exact ih h.2

/-- how a call's callee is kept -/
noncomputable def Kept (K : Frag) (v : Value) : Prop := (∃ i, v = .builtin i) ∨ (∃ i, v = .type i) ∨ keepIn K v = true
theorem with_ok (GK : Gk K g T) (W : Wd w g c) {pos : Pos} {v : Value} {first : List Value} {args : List Expr} {ds : List D} {d : D} {H1 H' : Hp} (hk : Kept K v) {f : Expr → Hp → Option (D × Hp)} (he : mapE f args c.H = some (ds, H1))
    (ha : wpAny (model pw w) A (spliced (backTo pos (starEach args env))) (fun vs s' => OutL w g c vs ds H1 s') Ef c.s)
    (hq : ∀ vs p φ s', Wd w g ⟨p, φ, H1, s'⟩ → Go [] c ⟨p, φ, H1, s'⟩ → VDs w p φ vs ds → wpAny (model pw w) A (call v (first ++ vs)) (fun v s' => Out w g c v d H' s') Ef s') :
    wpAny (model pw w) A (callWith pos v first (backTo pos (starEach args env)) []) (fun v s' => Out w g c v d H' s') Ef c.s := by
  have hs := mapE_stars args he
  have fin : wpAny (model pw w) A (evalArgs v true (backTo pos (starEach args env)) []) (fun a s₁ => K.In s₁.heap ∧ wpAny (model pw w) A (call v (first ++ a.pos) a.kw) (fun v s' => Out w g c v d H' s') Ef s₁) Ef c.s := by
    cases args with
    | nil =>
      cases he
      exact evalArgs_nil3 ⟨W.kin GK, hq [] c.p c.φ c.s W Go.refl .nil⟩
    | cons e r =>
      have hs := Bool.and_eq_true_iff.mp (show (!isStar e && noStars r) = true from hs)
      rw [star_plain ((Bool.not_eq_true' _).mp hs.1)] at ha ⊢
      exact evalArgs_plain (wpL ha fun vs p φ s1 W1 G1 V1 => ⟨W1.kin GK, hq vs p φ s1 W1 G1 V1⟩)
  have pl := (back_plain (pos := pos) (env := env) args hs).1
  rcases hk with ⟨i, rfl⟩ | ⟨i, rfl⟩ | hk
  · exact callWith_builtin pl (wpOut fin fun a s h => h.2)
  · exact PyProof.Rows.callWith_type pl (wpOut fin fun a s h => h.2)
  · exact callWith_of (P := fun h => K.In h) (by rw [pl]; rfl) (keeps_K hk) fin
noncomputable def CallsOk (w : World) (g : Heap) (A : Around) (v : Value) (ds : List D) (d : D) (H H' : Hp) : Prop := ∀ p φ s vs, Wd w g ⟨p, φ, H, s⟩ → VDs w p φ vs ds → wpAny (model pw w) A (call v vs) (fun v s' => Out w g ⟨p, φ, H, s⟩ v d H' s') Ef s
theorem callV_ok (GD : Gd w g T mg mb) (GK : Gk K g T) (GF : Gf w g K T) (SO : SortOk w g) (RS : RS w g n R) (hr : Rm A (n + 1)) {fv : D} {ds : List D} {d : D} {H H' : Hp} (h : callV T R fv ds H = some (d, H')) :
    ∃ v, dGlb fv = some v ∧ Kept K v ∧ CallsOk w g A v ds d H H' :=
  b1 h fun u e h => by
    refine ⟨u, e, ?_⟩
    cases u with
    | ref a =>
      dsimp only [callG, callA] at h
      cases q : T.fns a with
      | some f =>
        rw [q] at h
        obtain ⟨rfl, X⟩ := GF.fns _ _ q
        exact ⟨.inr (.inr X.keep), fun p φ s vs W V => OutR.call (callFn_ok GD GK SO X RS hr.q W V h)⟩
      | none =>
        rw [q] at h
        refine b1 h fun cl hc h5 => ?_
        obtain ⟨rfl, X⟩ := GK.cls _ _ hc
        exact ⟨.inr (.inr X.kp), fun p φ s vs W V => OutR.call (callCls_ok GD GK SO X (fun m f q => GF.mfn _ _ _ _ hc q) RS hr W V h5)⟩
    | builtin n => exact mP (P := fun d H' => Kept K (.builtin n) ∧ CallsOk w g A (.builtin n) ds d H H') h fun d h => ⟨.inl ⟨_, rfl⟩, fun p φ s vs W V => callB_ok hr.2.2 W V h⟩
    | type n => exact mP (P := fun d H' => Kept K (.type n) ∧ CallsOk w g A (.type n) ds d H H') h fun d h => ⟨.inr (.inl ⟨_, rfl⟩), fun p φ s vs W V => callT_ok W V h⟩
    | _ => exact nn h
theorem ex_Call (GD : Gd w g T mg mb) (GK : Gk K g T) (GF : Gf w g K T) (SO : SortOk w g) (RS : RS w g n R) (hr : Rm A (n + 1)) (W : Wd w g c) (F : Fm w env sc ρ c) {nm : Str} {np pos : Pos} {args : List Expr} {d : D} {H' : Hp} (h : nameC T R sc nm np args ρ c.H = some (d, H')) :
    wpAny (model pw w) A (eval (.Call (.Name nm np) args [] pos) env) (fun v s' => Out w g c v d H' s') Ef c.s :=
  bE h fun fv H1 h1 h => bE h fun ds H2 h2 h => by
    obtain ⟨v0, e, hk, hq⟩ := callV_ok GD GK GF SO RS hr h
    refine wpAny_Call_Name_kw (wpK (RS.ex A env sc _ ρ c _ H1 hr.down W F h1) fun v p φ s1 W1 G1 V1 => wpA G1 ?_)
    obtain rfl := dGlb_ok V1 e
    exact with_ok GK W1 (pos := pos) (first := []) hk h2 (exVs_ok RS hr.down args W1 (F.go G1) h2) fun vs p2 φ2 s2 W2 G2 V2 => wpA G2 (hq _ _ _ vs W2 V2)

/-! ### methods -/
theorem any_lookup_none {fs : List (Str × D)} {m : Str} (h : (fs.any fun e => e.1 == m) = false) : fs.lookup m = none := by
  induction fs with
  | nil => rfl
  | cons e r ih =>
    have h := Bool.or_eq_false_iff.mp (show (e.1 == m || r.any fun e => e.1 == m) = false from h)
    rw [List.lookup_cons, show (m == e.1) = false from beq_eq_false_iff_ne.mpr fun q => by rw [q, beq_self_eq_true] at h; cases h.1]
    exact ih h.2
theorem getM_own (GK : Gk K g T) (W : Wd w g c) {v : Value} {d : D} {i : Addr × List (Str × D)} {m : Str} {cl : Cl} {f : Fn} {pl : Sem Bool} {Q : Value × List Value → Shared → Prop} (V : VD w c.p c.φ v d) (h : asIns d c.H = some i) (hT : T.cls i.1 = some cl) (hm : cl.meths.lookup m = some f)
    (hn : (i.2.any fun e => e.1 == m) = false) (hq : Q (.ref f.addr, [v]) c.s) : wpAny (model pw w) A (getMethod v m pl) Q Ef c.s := by
  obtain ⟨a, o, dx, od, es, rfl, ha, ii, hd, j, Vs⟩ := asIns_ok W V h
  obtain ⟨e, X⟩ := GK.cls _ _ hT
  rw [← e] at ii
  obtain ⟨m1, m2⟩ := X.me _ _ hm
  exact method_fn (W.kin GK) (instAt_of ha ii hd) X.ga X.gm m1 m2 (by simp [shadowIn, lookIn_none j Vs (any_lookup_none hn)]) hq
theorem getM_dict (W : Wd w g c) {v : Value} {d : D} {es : List (Key × D)} {pl : Sem Bool} {Q : Value × List Value → Shared → Prop} (V : VD w c.p c.φ v d) (h : asDct d c.H = some es) (hq : Q (.builtin "dict.get", [v]) c.s) : wpAny (model pw w) A (getMethod v "get" pl) Q Ef c.s := by
  obtain ⟨a, o, kvs, rfl, hg, hs, hd, Vk⟩ := asDct_ok W V h
  exact getMethod_builtin ⟨_, hg, (isDk_is hd).1⟩ PySem.F.plainAttrs_dict PySem.F.slot_dict_get PySem.F.type_dict_get (fun b e => by cases e; exact ⟨_, hg, (isDk_is hd).2.1⟩) hq
/-- dict.get, with a default or without -/
noncomputable def GetOk (w : World) (g : Heap) (A : Around) (c : Cf) (v vk vx : Value) (d : D) : Prop := CallOk w g A c (.builtin "dict.get") [v, vk, vx] d ∧ (vx = .none → CallOk w g A c (.builtin "dict.get") [v, vk] d)
theorem dget_ok (W : Wd w g c) {v vk vx : Value} {d dk dx d' : D} (V : VD w c.p c.φ v d) (Vk : VD w c.p c.φ vk dk) (Vx : VD w c.p c.φ vx dx) (h : getM d dk dx c.H = some d') : GetOk w g A c v vk vx d' :=
  b1 h fun k hk h => b1 h fun es he h => i1 h fun q h => by
    cases h
    rw [Bool.and_eq_true] at q
    obtain ⟨a, o, kvs, rfl, hg, hs, hd, Ve⟩ := asDct_ok W V he
    have D := dk_of hd ((vkds_all Ve (sameKind k)).trans q.2)
    have K := asKey_ok Vk hk
    have res : ∀ t, Out w g c ((kvs.lookup k).getD vx) ((es.lookup k).getD dx) c.H { c.s with toks := t } := fun t => by
      cases hl : es.lookup k with
      | none => rw [(vkds_lookup Ve k).2 hl]; exact Out.tok W t Vx
      | some d' => obtain ⟨v', e1, V'⟩ := (vkds_lookup Ve k).1 d' hl; rw [e1]; exact Out.tok W t V'
    cases k with
    | t x => cases q.1
    | s x =>
      obtain ⟨t, rfl⟩ := K
      obtain ⟨l, rfl, D⟩ := D
      rw [lookup_str] at res
      have M := (dictOf hg D).mapOf
      exact ⟨call_meetsIn PySem.F.slot_dict_get ⟨_, hg, (isDk_is hd).1⟩ PySem.F.entry_dict_get (PySem.F.args_dict_get_3 _ _ _) (meets_dict_get_default (PySem.strKind pw w) a (k := x) (by simp [PySem.strKind, Value.isStrOf]) hs vx) ⟨_, M, res _⟩, fun e2 => by
        subst e2
        exact call_meetsIn PySem.F.slot_dict_get ⟨_, hg, (isDk_is hd).1⟩ PySem.F.entry_dict_get (PySem.F.args_dict_get_2 _ _) (meets_dict_get (PySem.strKind pw w) a (k := x) (by simp [PySem.strKind, Value.isStrOf]) hs) ⟨_, M, res _⟩⟩
    | i x =>
      obtain ⟨t, rfl⟩ := K
      obtain ⟨l, rfl, D⟩ := D
      rw [lookup_int] at res
      have M := (dictOf hg D).mapOf
      exact ⟨call_meetsIn PySem.F.slot_dict_get ⟨_, hg, (isDk_is hd).1⟩ PySem.F.entry_dict_get (PySem.F.args_dict_get_3 _ _ _) (meets_dict_get_default (intKind pw w) a (k := x) (by simp [intKind, Value.isInt]) hs vx) ⟨_, M, res _⟩, fun e2 => by
        subst e2
        exact call_meetsIn PySem.F.slot_dict_get ⟨_, hg, (isDk_is hd).1⟩ PySem.F.entry_dict_get (PySem.F.args_dict_get_2 _ _) (meets_dict_get (intKind pw w) a (k := x) (by simp [intKind, Value.isInt]) hs) ⟨_, M, res _⟩⟩
theorem methD_ok (W : Wd w g c) {v : Value} {d0 : D} {m : Str} {vs : List Value} {ds : List D} {d : D} (V : VD w c.p c.φ v d0) (Vs : VDs w c.p c.φ vs ds) (h : methD d0 m ds c.H = some d) : CallOk w g A c (.builtin "dict.get") (v :: vs) d :=
  i1 h fun _ h => by
    cases q : one ds with
    | some k =>
      rw [q] at h
      rw [one_eq q] at Vs
      obtain ⟨vk, rfl, Vk⟩ := Vs.one
      exact (dget_ok (vx := .none) W V Vk (.f .none) h).2 rfl
    | none =>
      rw [q] at h
      refine b1 h fun x e h => ?_
      rw [two_eq e] at Vs
      obtain ⟨vk, vx, rfl, Vk, Vx⟩ := Vs.two
      exact (dget_ok W V Vk Vx h).1
theorem methD_get {d0 : D} {m : Str} {ds : List D} {H : Hp} {d : D} (h : methD d0 m ds H = some d) : m = "get" := i1 h fun e _ => e
theorem methL_lm {m : Str} {l ds : List D} {H : Hp} {y : D × List D} (h : methL m l ds H = some y) : isLM m = true := by
  refine i2 h (fun e _ => by rw [e]; rfl) fun _ h => i2 h (fun e _ => by rw [e]; rfl) fun _ h => i2 h (fun e _ => by rw [e]; rfl) fun _ h => i1 h fun e _ => by rw [e]; rfl
/-- a method of a list or dict: its name's builtin, and what it does after the arguments -/
theorem recv_ok (W : Wd w g c) {v : Value} {d0 : D} {m : Str} {pl : Sem Bool} (V : VD w c.p c.φ v d0) (h : recvOk d0 m c.H = true) :
    ∃ i, (∀ Q : Value × List Value → Shared → Prop, Q (.builtin i, [v]) c.s → wpAny (model pw w) A (getMethod v m pl) Q Ef c.s) ∧
      ∀ p φ H s, Wd w g ⟨p, φ, H, s⟩ → Go [] c ⟨p, φ, H, s⟩ → ∀ vs ds d H', VDs w p φ vs ds → meth d0 m ds H = some (d, H') → wpAny (model pw w) A (call (.builtin i) (v :: vs)) (fun v s' => Out w g ⟨p, φ, H, s⟩ v d H' s') Ef s := by
  unfold recvOk at h
  by_cases q : (ownL d0 c.H).isSome = true
  · rw [if_pos q] at h
    obtain ⟨x, hx⟩ := Option.isSome_iff_exists.mp q
    refine ⟨lid m, fun Q hq => getM_list (ownL_ok W V hx) h hq, fun p φ H s W1 G1 vs ds d H' Vs hm => ?_⟩
    have V1 := V.mono G1.ps G1.fs
    unfold meth at hm
    cases q : ownL d0 H with
    | some y =>
      rw [q] at hm
      exact i1 hm fun hl hm => mP (P := fun d H' => wpAny (model pw w) A (call (.builtin (lid m)) (v :: vs)) (fun v s' => Out w g ⟨p, φ, H, s⟩ v d H' s') Ef s) hm fun z hm => methL_ok W1 (ownL_ok W1 V1 q) hl Vs hm
    | none =>
      rw [q] at hm
      refine m1 (P := fun _ => wpAny (model pw w) A (call (.builtin (lid m)) (v :: vs)) (fun v s' => Out w g ⟨p, φ, H, s⟩ v d H' s') Ef s) hm fun z hm => ?_
      rw [methD_get hm] at h; cases h
  · rw [if_neg q, Bool.and_eq_true, beq_iff_eq] at h
    obtain ⟨rfl, h⟩ := h
    obtain ⟨es, he⟩ := Option.isSome_iff_exists.mp h
    refine ⟨"dict.get", fun Q hq => getM_dict W V he hq, fun p φ H s W1 G1 vs ds d H' Vs hm => ?_⟩
    have V1 := V.mono G1.ps G1.fs
    unfold meth at hm
    cases q : ownL d0 H with
    | some y =>
      rw [q] at hm
      exact i1 hm fun hl hm => m1 (P := fun _ => wpAny (model pw w) A (call (.builtin "dict.get") (v :: vs)) (fun v s' => Out w g ⟨p, φ, H, s⟩ v d H' s') Ef s) hm fun z hm => by cases methL_lm hm
    | none =>
      rw [q] at hm
      exact mP (P := fun d H' => wpAny (model pw w) A (call (.builtin "dict.get") (v :: vs)) (fun v s' => Out w g ⟨p, φ, H, s⟩ v d H' s') Ef s) hm fun z hm => methD_ok W1 V1 Vs hm
theorem eval_meth {o : Expr} {m : Str} {apos pos : Pos} {args : List Expr} {Q : Value → Shared → Prop} (hbase : attributeBase o m env (eval o env) = eval o env) (hs : noStars args = true) (hl : args.length < 30) (hline : (apos.endLine == pos.line) = true)
    (h : wpAny (model pw w) A (eval o env) (fun ov s₁ => wpAny (model pw w) A (getMethod ov m (do return (← importBound o env).getD true)) (fun fx s₂ => wpAny (model pw w) A (callWith pos fx.1 fx.2 (backTo pos (starEach args env)) []) Q Ef s₂) Ef s₁) Ef c.s) :
    wpAny (model pw w) A (eval (.Call (.Attribute o m apos) args [] pos) env) Q Ef c.s := by
  rw [arm_eval_Call, hbase]
  refine wpAny_bind (wpAny_mono h (fun ov s₁ h₁ => ?_) fun _ _ e => e)
  refine wpAny_bind (wpAny_standAt ?_)
  have hform : methodCallForm (args.length + ([] : List Keyword).length) (backTo pos (starEach args env)) (backToKw pos (keywordEach [] env)) = true := by
    rw [show backToKw pos (keywordEach [] env) = [] from rfl]
    unfold methodCallForm
    rw [(back_plain args hs).2]
    simpa using hl
  have hpos : methodCallPos true o env apos pos = pure pos := by unfold methodCallPos; simp [hline]
  unfold methodCall
  rw [hform]
  refine wpAny_bind (wpAny_holding (wpAny_mono h₁ (fun fx s₂ h₂ => ?_) fun _ _ e => e))
  exact wpAny_bind (wpAny_of_eq hpos h₂)
theorem ex_Meth (GD : Gd w g T mg mb) (GK : Gk K g T) (GF : Gf w g K T) (SO : SortOk w g) (RS : RS w g n R) (hr : Rm A (n + 1)) (W : Wd w g c) (F : Fm w env sc ρ c) {o : Expr} {m : Str} {apos pos : Pos} {args : List Expr} {d : D} {H' : Hp} (ho : isCN o = false)
    (hline : (apos.endLine == pos.line) = true) (hl : args.length < 30) (h : methE T R sc o m args ρ c.H = some (d, H')) :
    wpAny (model pw w) A (eval (.Call (.Attribute o m apos) args [] pos) env) (fun v s' => Out w g c v d H' s') Ef c.s := by
  refine bE h fun d0 H1 h1 h => ?_
  have step := RS.ex A env sc o ρ c d0 H1 hr.down W F h1
  dsimp only at h
  cases hi : asIns d0 H1 with
  | some i =>
    rw [hi] at h
    refine i0 h fun hn h => b1 h fun cl hT h => b1 h fun f hm h => bE h fun ds H2 h2 h => ?_
    have X := GF.mfn _ _ _ _ hT hm
    exact eval_meth (base_ok ho) (mapE_stars args h2) hl hline (wpK step fun v p φ s1 W1 G1 V1 => getM_own GK W1 V1 hi hT hm ((Bool.not_eq_true _).mp hn)
      (wpA G1 (with_ok GK W1 (pos := pos) (v := .ref f.addr) (first := [v]) (.inr (.inr X.keep)) h2 (exVs_ok RS hr.down args W1 (F.go G1) h2) fun vs p2 φ2 s2 W2 G2 V2 => wpA G2 (OutR.call (callFn_ok GD GK SO X RS hr.q W2 (vs := v :: vs) (ds := d0 :: ds) (.cons (V1.mono G2.ps G2.fs) V2) h)))))
  | none =>
    rw [hi] at h
    refine i1 h fun hrec h => bE h fun ds H2 h2 h => ?_
    have ha : ∃ f, mapE f args H1 = some (ds, H2) ∧ ExOk w g A env sc ρ f := by
      by_cases q : m = "append"
      · rw [if_pos q] at h2; exact ⟨_, h2, RS.exOk hr.down⟩
      · rw [if_neg q] at h2; exact ⟨_, h2, exV_ok RS hr.down⟩
    obtain ⟨f, he, hf⟩ := ha
    refine eval_meth (base_ok ho) (mapE_stars args he) hl hline (wpK step fun v p φ s1 W1 G1 V1 => ?_)
    obtain ⟨i, g1, g2⟩ := recv_ok (A := A) (pl := (do return (← importBound o env).getD true)) W1 V1 hrec
    exact g1 _ (wpA G1 (with_ok GK W1 (pos := pos) (v := .builtin i) (first := [v]) (.inl ⟨_, rfl⟩) he (mapE_ok hf args W1 (F.go G1) he) fun vs p2 φ2 s2 W2 G2 V2 => wpA G2 (g2 _ _ _ _ W2 G2 vs ds d H' V2 h)))
end
end Mine

end
noncomputable section
set_option Elab.async false
set_option maxRecDepth 100000
set_option maxHeartbeats 1000000
set_option linter.unusedVariables false
/-! stores into names -/
open PySem PySem.W PySem.Spec PySem.Calls PyProof.Rows
open PySem.SeqAt
namespace Mine
theorem nameE_eq {e : Expr} {x : Str} (h : nameE e = some x) : ∃ p, e = .Name x p := by cases e with | Name y p => cases h; exact ⟨p, rfl⟩ | _ => exact nn h
theorem tupE_eq {e : Expr} {es : List Expr} (h : tupE e = some es) : ∃ k p, e = .Tuple es k p := by cases e with | Tuple y k p => cases h; exact ⟨k, p, rfl⟩ | _ => exact nn h
section
variable {w : World} {g : Heap} {c : Cf} {A : Around} {env : Env} {sc : Sc} {ρ : Rho} {T : Tabs} {R : Rec} {n : Nat} {mg mb : Str → Option Value} {K : Frag}
/-- a change of what the run does not name -/
theorem Wd.side {c₀ : Cf} {X Y : List Addr} (W : Wd w g c) (G : Go Y c₀ c) (hX : ∀ b ∈ X, ¬ Lv c.φ c.H b ∧ ∀ o, ¬ c.p b o) {s' : Shared} (hk : ∀ a o, a ∉ X → c.s.heap.get? a = some o → s'.heap.get? a = some o) (he : s' = { c.s with heap := s'.heap, toks := s'.toks })
    (ha : ∀ b ∈ X, Al s' b ∨ (¬ inφ c.φ b ∧ ¬ Al c₀.s b)) (hY : ∀ b ∈ X, b ∈ Y ∨ ¬ Al c₀.s b) : Wd w g ⟨c.p, c.φ, c.H, s'⟩ ∧ Go Y c₀ ⟨c.p, c.φ, c.H, s'⟩ := by
  have al : ∀ a, Al c.s a → (¬ inφ c.φ a → Al c₀.s a) → Al s' a := fun a ⟨o, e⟩ q => (Classical.em (a ∈ X)).elim (fun m => (ha a m).elim id fun z => absurd (q z.1) z.2) fun m => ⟨o, hk a o m e⟩
  refine ⟨⟨fun a o p => hk a o (fun m => (hX a m).2 o p) (W.sub a o p), W.grd, W.len, W.nd, W.ne, W.no, fun k x a h m => al a (W.lt k x a h m) fun q => absurd ⟨k, x, h, m⟩ q, W.np, fun k x O h1 h2 => (W.tr k x O h1 h2).keep fun hf a m o => hk a o fun q => (hX a q).1 (lv_self h1 h2 hf m), ?_⟩,
    ⟨G.ps, G.pn, G.fs, fun a o e hl hy => hk a o (fun m => (hY a m).elim hy fun z => z ⟨_, e⟩) (G.kp a o e hl hy), G.lv, fun a h => al a (G.sz a h) fun _ => h, by rw [he, G.st], G.ph⟩⟩
  obtain ⟨ps, e, q⟩ := W.tab
  exact ⟨ps, hk _ _ (fun m => (hX _ m).1 (.inl rfl)) e, q⟩
/-- a change of one object that the run does not name -/
theorem Wd.side1 {c₀ : Cf} {b : Addr} {Y : List Addr} (W : Wd w g c) (G : Go Y c₀ c) (h1 : ¬ Lv c.φ c.H b) (h2 : ∀ o, ¬ c.p b o) {h' : Heap} {tk : Tok} (hk : Heap.SameBut b c.s.heap h')
    (ha : (∃ o, h'.get? b = some o) ∨ (¬ inφ c.φ b ∧ ¬ Al c₀.s b)) (hY : b ∈ Y ∨ ¬ Al c₀.s b) : Wd w g ⟨c.p, c.φ, c.H, { c.s with heap := h', toks := tk }⟩ ∧ Go Y c₀ ⟨c.p, c.φ, c.H, { c.s with heap := h', toks := tk }⟩ :=
  W.side G (X := [b]) (s' := { c.s with heap := h', toks := tk }) (fun a m => List.mem_singleton.mp m ▸ ⟨h1, h2⟩) (fun a o m e => (hk.2 a fun q => m (q ▸ .head _)).trans e) rfl (fun a m => List.mem_singleton.mp m ▸ ha) (fun a m => List.mem_singleton.mp m ▸ hY)
/-- where a store into a name goes -/
noncomputable def TX (env : Env) (sc : Sc) (X : List Addr) : Prop := env.locals ∈ X ∧ ∀ x a, sc.lookup x = some .cell → env.cells.lookup x = some a → a ∈ X
theorem TX.frm (F : Fm w env sc ρ c) : TX env sc (frm env) := ⟨.head _, fun x a _ h => cells_frm (lookup_mem h)⟩
theorem filter_lookup {x y : Str} (h : y ≠ x) (ρ : Rho) : (ρ.filter fun e => e.1 != x).lookup y = ρ.lookup y := by
  induction ρ with
  | nil => rfl
  | cons e r ih =>
    rw [List.filter_cons, List.lookup_cons]
    by_cases q : e.1 = x
    · rw [if_neg (by rw [q, bne_self_eq_false]; exact Bool.false_ne_true), show (y == e.1) = false from beq_eq_false_iff_ne.mpr (q ▸ h), ih]
    · rw [if_pos (bne_iff_ne.mpr q), List.lookup_cons, ih]
theorem Fm.rho (F : Fm w env sc ρ c) {ρ' : Rho} (h : ∀ x d, ρ'.lookup x = some d → ρ.lookup x = some d) : Fm w env sc ρ' c :=
  ⟨F.kind, F.glb, F.blt, F.loc, F.cel, F.fre, F.gli, let ⟨m, a, b⟩ := F.ns; ⟨m, a, fun x d e => b x d (h x d e)⟩, fun x d e => F.cl x d (h x d e), F.ce, F.ap, F.nl⟩
inductive OutT (w : World) (g : Heap) (env : Env) (sc : Sc) (X : List Addr) (c₀ c : Cf) (ρ' : Rho) (s' : Shared) : Prop
  | mk {p : Pm} {φ : Phi} : Wd w g ⟨p, φ, c.H, s'⟩ → Go X c₀ ⟨p, φ, c.H, s'⟩ → Go X c ⟨p, φ, c.H, s'⟩ → Fm w env sc ρ' ⟨p, φ, c.H, s'⟩ → OutT w g env sc X c₀ c ρ' s'
theorem wpT {t : Sem Unit} {c₀ : Cf} {X : List Addr} {ρ' : Rho} {s : Shared} {Q : Unit → Shared → Prop} (h : wpAny (model pw w) A t (fun _ s' => OutT w g env sc X c₀ c ρ' s') Ef s) (k : ∀ a p φ s', Wd w g ⟨p, φ, c.H, s'⟩ → Go X c₀ ⟨p, φ, c.H, s'⟩ → Go X c ⟨p, φ, c.H, s'⟩ → Fm w env sc ρ' ⟨p, φ, c.H, s'⟩ → Q a s') : wpAny (model pw w) A t Q Ef s :=
  wpOut h fun _ _ o => let ⟨W, G, G', F⟩ := o; k _ _ _ _ W G G' F
/-- a name stored, on the side of the data -/
theorem put_look {x : Str} {d : D} {y : Str} {d' : D} (e : ((x, d) :: ρ.filter fun e => e.1 != x).lookup y = some d') : (y = x ∧ d = d') ∨ (y ≠ x ∧ ρ.lookup y = some d') := by
  rw [List.lookup_cons] at e
  by_cases q : y = x
  · rw [q, beq_self_eq_true] at e; exact .inl ⟨q, Option.some.inj e⟩
  · rw [beq_eq_false_iff_ne.mpr q] at e; exact .inr ⟨q, (filter_lookup q ρ).symm.trans e⟩
theorem store_ok {c₀ : Cf} {X : List Addr} (W : Wd w g c) (G : Go X c₀ c) (F : Fm w env sc ρ c) (hT : TX env sc X) {x : Str} {d : D} {v : Value} {ρ' : Rho} (V : VD w c.p c.φ v d) (h : putV sc ρ x d = some ρ') :
    wpAny (model pw w) A (storeName env x v) (fun _ s' => OutT w g env sc X c₀ c ρ' s') Ef c.s := by
  refine b1 h fun k hk h => ?_
  cases k with
  | «local» =>
    cases h
    obtain ⟨m, hn, hm⟩ := F.ns
    refine wpAny_storeName_local (F.loc x hk) hn (fun h' hn' hs' => ?_) (by rw [F.kind]; rfl)
    obtain ⟨nl1, nl2⟩ := F.nl _ (.head _)
    have al : ∃ o, h'.get? env.locals = some o := let ⟨o, _, _, e, _⟩ := hn'; ⟨o, e⟩
    obtain ⟨W1, G1⟩ := W.side1 (tk := c.s.toks + 1) G nl1 nl2 hs' (.inl al) (.inl hT.1)
    obtain ⟨_, G2⟩ := W.side1 (tk := c.s.toks + 1) (Go.refl (X := X)) nl1 nl2 hs' (.inl al) (.inl hT.1)
    refine ⟨W1, G1, G2, ⟨F.kind, F.glb, F.blt, F.loc, F.cel, F.fre, F.gli, ⟨_, hn', fun y d' e k => ?_⟩, fun y d' e k => ?_, fun y a q => ?_, F.ap, F.nl⟩⟩
    · rcases put_look e with ⟨rfl, rfl⟩ | ⟨q, e⟩
      · exact ⟨v, if_pos rfl, V⟩
      · obtain ⟨u, h1, h2⟩ := hm y d' e k
        exact ⟨u, (if_neg q).trans h1, h2⟩
    · rcases put_look e with ⟨rfl, rfl⟩ | ⟨q, e⟩
      · rcases k with k | k <;> (rw [hk] at k; cases k)
      · obtain ⟨a, u, h1, ⟨o, h2, h3⟩, h4⟩ := F.cl y d' e k
        exact ⟨a, u, h1, ⟨o, (hs'.2 a (F.ce y a (lookup_mem h1)).2).trans h2, h3⟩, h4⟩
    · obtain ⟨⟨ov, o, h2, h3⟩, ne⟩ := F.ce y a q
      exact ⟨⟨ov, o, (hs'.2 a ne).trans h2, h3⟩, ne⟩
  | cell =>
    cases h
    obtain ⟨ek, a, ha⟩ := F.cel x hk
    obtain ⟨⟨ov, hc⟩, ne⟩ := F.ce x a (lookup_mem ha)
    refine wpAny_storeName_cell F.kind ek ha hc fun h' hc' hs' => ?_
    obtain ⟨nl1, nl2⟩ := F.nl _ (cells_frm (lookup_mem ha))
    have al : ∃ o, h'.get? a = some o := let ⟨o, e, _⟩ := hc'; ⟨o, e⟩
    obtain ⟨W1, G1⟩ := W.side1 (tk := c.s.toks) G nl1 nl2 hs' (.inl al) (.inl (hT.2 x _ hk ha))
    obtain ⟨_, G2⟩ := W.side1 (tk := c.s.toks) (Go.refl (X := X)) nl1 nl2 hs' (.inl al) (.inl (hT.2 x _ hk ha))
    have apart : ∀ y b, env.cells.lookup y = some b → y ≠ x → b ≠ a := fun y b h1 q z => q (name_of_addr F.ap (lookup_mem (z ▸ h1)) (lookup_mem ha))
    obtain ⟨m, hn, hm⟩ := F.ns
    refine ⟨W1, G1, G2, ⟨F.kind, F.glb, F.blt, F.loc, F.cel, F.fre, F.gli, ⟨m, hn.at' fun o e => (hs'.2 _ ne.symm).trans e, fun y d' e k => ?_⟩, fun y d' e k => ?_, fun y b q => ?_, F.ap, F.nl⟩⟩
    · rcases put_look e with ⟨rfl, rfl⟩ | ⟨q, e⟩
      · rw [hk] at k; cases k
      · exact hm y d' e k
    · rcases put_look e with ⟨rfl, rfl⟩ | ⟨q, e⟩
      · exact ⟨a, v, ha, hc', V⟩
      · obtain ⟨b, u, h1, ⟨o, h2, h3⟩, h4⟩ := F.cl y d' e k
        exact ⟨b, u, h1, ⟨o, (hs'.2 b (apart y b h1 q)).trans h2, h3⟩, h4⟩
    · by_cases z : b = a
      · rw [z]; exact ⟨⟨_, hc'⟩, ne⟩
      · obtain ⟨⟨ov, o, h2, h3⟩, ne'⟩ := F.ce y b q
        exact ⟨⟨ov, o, (hs'.2 b z).trans h2, h3⟩, ne'⟩
  | _ => exact nn h
theorem OutT.mid {c₀ c : Cf} {p1 : Pm} {φ1 : Phi} {s1 : Shared} {X : List Addr} {ρ' : Rho} {s' : Shared} (G : Go X c ⟨p1, φ1, c.H, s1⟩) (h : OutT w g env sc X c₀ ⟨p1, φ1, c.H, s1⟩ ρ' s') : OutT w g env sc X c₀ c ρ' s' :=
  let ⟨W, G1, G2, F⟩ := h; ⟨W, G1, G.trans G2, F⟩
theorem assignEach_cons {e : Expr} {r : List Expr} (h : isStar e = false) : assignEach (e :: r) env = (false, assign e env) :: assignEach r env := by
  cases e with
  | Starred => cases h
  | _ => rfl
theorem nameE_star {e : Expr} (h : (nameE e).isSome = true) : isStar e = false := by obtain ⟨x, h⟩ := Option.isSome_iff_exists.mp h; obtain ⟨p, rfl⟩ := nameE_eq h; rfl
theorem bindT_star {m : Nat} {e : Expr} {d : D} {ρ ρ' : Rho} (h : bindT sc m e d ρ = some ρ') : isStar e = false := by
  cases m with
  | zero => exact b1 h fun x hx _ => nameE_star (by rw [hx]; rfl)
  | succ m =>
    unfold bindT at h
    cases q : nameE e with
    | some x => exact nameE_star (by rw [q]; rfl)
    | none =>
      rw [q] at h
      exact b1 h fun es he _ => by obtain ⟨k, p, rfl⟩ := tupE_eq he; rfl
/-- the parts of a tuple of targets, bound one by one -/
noncomputable def bindAll (sc : Sc) (m : Nat) (es : List Expr) (ds : List D) (ρ : Rho) : Option Rho := (es.zip ds).foldlM (fun ρ p => bindT sc m p.1 p.2 ρ) ρ
theorem bindAll_shape {m : Nat} {ρ' : Rho} (r : List Expr) : ∀ (ds : List D) (ρ : Rho), ds.length = r.length → bindAll sc m r ds ρ = some ρ' → (assignEach r env).length = r.length ∧ (assignEach r env).findIdx? (·.1) = none := by
  induction r with
  | nil => intro ds ρ _ _; exact ⟨rfl, rfl⟩
  | cons e r ih =>
    intro ds ρ hl h
    cases ds with
    | nil => cases hl
    | cons d ds =>
      unfold bindAll at h
      rw [List.zip_cons_cons, List.foldlM_cons] at h
      refine b1 h fun ρ1 q1 q2 => ?_
      obtain ⟨i1, i2⟩ := ih ds ρ1 (Nat.succ.inj hl) q2
      rw [assignEach_cons (bindT_star q1)]
      exact ⟨congrArg (· + 1) i1, by rw [List.findIdx?_cons, i2]; rfl⟩
noncomputable def BindOk (w : World) (g : Heap) (A : Around) (env : Env) (sc : Sc) (m : Nat) : Prop := ∀ (e : Expr) {c₀ c : Cf} {X : List Addr} {d : D} {v : Value} {ρ ρ' : Rho}, Wd w g c → Go X c₀ c → Fm w env sc ρ c → TX env sc X → VD w c.p c.φ v d → bindT sc m e d ρ = some ρ' →
    wpAny (model pw w) A (assign e env v) (fun _ s' => OutT w g env sc X c₀ c ρ' s') Ef c.s
theorem parts_ok {m : Nat} (ih : BindOk w g A env sc m) {c₀ : Cf} {X : List Addr} {ρ' : Rho} (hT : TX env sc X) (es : List Expr) : ∀ (c : Cf) (ds : List D) (vs : List Value) (ρ : Rho), Wd w g c → Go X c₀ c → Fm w env sc ρ c → VDs w c.p c.φ vs ds → ds.length = es.length → bindAll sc m es ds ρ = some ρ' →
    wpAny (model pw w) A (assignInOrder ((assignEach es env).map (·.2)) vs) (fun _ s' => OutT w g env sc X c₀ c ρ' s') Ef c.s := by
  induction es with
  | nil =>
    intro c ds vs ρ W G F V hl h
    obtain rfl := List.eq_nil_of_length_eq_zero hl
    cases h
    rw [show vs = [] from V.inv]
    exact wpAny_pure ⟨W, G, Go.refl, F⟩
  | cons e r ihr =>
    intro c ds vs ρ W G F V hl h
    cases ds with
    | nil => cases hl
    | cons d ds =>
      obtain ⟨v, us, rfl, h1, h2⟩ := V.inv
      unfold bindAll at h
      rw [List.zip_cons_cons, List.foldlM_cons] at h
      refine b1 h fun ρ1 q1 q2 => ?_
      rw [assignEach_cons (bindT_star q1)]
      exact wpAny_bind (wpAny_holding (wpT (ih e W G F hT h1 q1) fun _ p φ s1 W1 G1 G1' F1 => wpOut (ihr _ ds us ρ1 W1 G1 F1 (h2.mono G1'.ps G1'.fs) (Nat.succ.inj hl) q2) fun _ s2 o => o.mid G1'))
theorem bindT_ok (hh : A.handled = none) (m : Nat) : BindOk w g A env sc m := by
  induction m with
  | zero =>
    intro e c₀ c X d v ρ ρ' W G F hT V h
    refine b1 h fun x hx h => ?_
    obtain ⟨p, rfl⟩ := nameE_eq hx
    exact wpAny_assign_Name (store_ok W G F hT V h)
  | succ m ih =>
    intro e c₀ c X d v ρ ρ' W G F hT V h
    unfold bindT at h
    cases q : nameE e with
    | some x =>
      rw [q] at h
      obtain ⟨p, rfl⟩ := nameE_eq q
      exact wpAny_assign_Name (store_ok W G F hT V h)
    | none =>
      rw [q] at h
      refine b1 h fun es he h => b1 h fun ds hd h => i1 h fun hl h5 => ?_
      obtain ⟨x1, pos, rfl⟩ := tupE_eq he
      obtain ⟨a, o, vs, rfl, hp, it, Vs⟩ := asTup_ok V hd
      have IT : c.s.heap.IsTuple a vs.toArray := it.isTup (W.sub _ _ hp)
      obtain ⟨p1, p2⟩ := bindAll_shape (env := env) es ds ρ hl h5
      refine wpAny_assign_Tuple hh IT (by rw [p1, List.size_toArray, Vs.length, hl]) p2 fun h' he => ?_
      obtain ⟨W1, G1⟩ := W.grow (s' := { c.s with heap := h' }) (fun a o e => he a o (Nat.ne_of_lt (Heap.lt_size e)) e) rfl
      exact wpOut (parts_ok ih hT es _ ds vs ρ W1 (G.trans G1.toX) (F.go G1) (Vs.mono G1.ps G1.fs) hl h5) fun _ s2 o => OutT.mid (c := c) G1.toX o
end
end Mine

end
noncomputable section
set_option Elab.async false
set_option maxRecDepth 100000
set_option maxHeartbeats 1000000
set_option linter.unusedVariables false
/-! what a loop goes over -/
open PySem PySem.W PySem.Spec PySem.Calls PyProof.Rows
open PySem.SeqAt
namespace Mine
/-- what a source writes, and what it leans on -/
structure Hold (c₀ c : Cf) (Y fp wr : List Addr) : Prop where
  w1 : ∀ b ∈ wr, ¬ Al c₀.s b ∧ (∀ o, ¬ c.p b o) ∧ ¬ inφ c.φ b
  f1 : ∀ b ∈ fp, ¬ Lv c.φ c.H b ∧ b ∉ Y
section
variable (w : World) (g : Heap)
/-- a turn's beginning -/
structure Next (c₀ c : Cf) (Y wr : List Addr) (p' : Pm) (s' : Shared) : Prop where
  p : ∀ a o, c.p a o → p' a o
  q : ∀ a o, p' a o → c.p a o ∨ ¬ Al c.s a
  wd : Wd w g ⟨p', c.φ, c.H, s'⟩
  go : Go Y c₀ ⟨p', c.φ, c.H, s'⟩
  kp : ∀ a o, a ∉ wr → c.s.heap.get? a = some o → s'.heap.get? a = some o
/-- a turn's item, and what then stands -/
noncomputable def ItemPost (A : Around) (tgt : Expr) (I : Addr) (Q : Value → Shared → Prop) (r : Option Value) (s₁ : Shared) : Prop := ∃ v, r = some v ∧ wpAny (model pw w) A (letOwnedTupleGo tgt (.ref I) v) (fun _ s₂ => Q v s₂) Ef s₁
structure Src (A : Around) (tgt : Expr) (c₀ : Cf) (I : Addr) (fp wr : List Addr) (ds : List D) (St : Nat → Heap → Prop) : Prop where
  sub : ∀ b ∈ wr, b ∈ fp
  frame : ∀ i h h', St i h → (∀ b ∈ fp, ∀ o, h.get? b = some o → h'.get? b = some o) → St i h'
  al : ∀ i h, St i h → ∀ b ∈ fp, ∃ o, h.get? b = some o
  item : ∀ i d (c : Cf) (Y : List Addr) (Q : Value → Shared → Prop), ds[i]? = some d → Wd w g c → Go Y c₀ c → St i c.s.heap → Hold c₀ c Y fp wr →
    (∀ v p' s', Next w g c₀ c Y wr p' s' → VD w p' c.φ v d → St (i + 1) s'.heap → Q v s') → wpAny (model pw w) A (pyNext (.ref I)) (ItemPost w A tgt I Q) Ef c.s
  done : ∀ (c : Cf) (Y : List Addr) (Q : Shared → Prop), Wd w g c → Go Y c₀ c → St ds.length c.s.heap → Hold c₀ c Y fp wr →
    (∀ p' s', Next w g c₀ c Y wr p' s' → Q s') → wpAny (model pw w) A (pyNext (.ref I)) (fun r s₁ => r = none ∧ Q s₁) Ef c.s
  self : ∀ i (s : Shared) (Q : Value → Shared → Prop) (E : Value → Shared → Prop), St i s.heap → Q (.ref I) s → wpAny (model pw w) A (pyIter (.ref I)) Q E s
/-- a source stands ready -/
inductive SrcAt (A : Around) (tgt : Expr) (c₀ : Cf) (ds : List D) (s' : Shared) : Value → Prop
  | mk (I : Addr) (fp wr : List Addr) (St : Nat → Heap → Prop) : Src w g A tgt c₀ I fp wr ds St → St 0 s'.heap → (∀ b ∈ wr, ¬ Al c₀.s b) → (∀ b ∈ fp, ¬ Al c₀.s b ∨ ∃ o, c₀.p b o) →
    (∀ a o, c₀.s.heap.get? a = some o → s'.heap.get? a = some o) → s' = { c₀.s with heap := s'.heap, toks := s'.toks } → SrcAt A tgt c₀ ds s' (.ref I)
end
section
variable {w : World} {g : Heap} {c : Cf} {A : Around} {env : Env} {sc : Sc} {ρ : Rho}
theorem next_of {c₀ : Cf} {Y fp wr : List Addr} (W : Wd w g c) (G : Go Y c₀ c) (H : Hold c₀ c Y fp wr) (sub : ∀ b ∈ wr, b ∈ fp) {h' : Heap} {tk : Tok} (hk : ∀ a o, a ∉ wr → c.s.heap.get? a = some o → h'.get? a = some o)
    (hb : (∀ b ∈ fp, ∃ o, h'.get? b = some o) ∨ ∀ b ∈ wr, ¬ inφ c.φ b) : Next w g c₀ c Y wr c.p { c.s with heap := h', toks := tk } :=
  let ⟨W1, G1⟩ := W.side G (X := wr) (fun b m => ⟨(H.f1 b (sub b m)).1, (H.w1 b m).2.1⟩) (s' := { c.s with heap := h', toks := tk }) hk rfl (fun b m => hb.elim (fun z => .inl (z b (sub b m))) fun z => .inr ⟨z b m, (H.w1 b m).1⟩) (fun b m => .inr (H.w1 b m).1)
  ⟨fun _ _ h => h, fun _ _ h => .inl h, W1, G1, hk⟩
theorem Src.ofWalks {tgt : Expr} {c₀ : Cf} {I : Addr} {fp wr : List Addr} {m : Nat} {ds : List D} {P : Nat → Value → Prop} {St : Nat → Heap → Prop} (Wk : Walks pw w A I fp wr m P St) (hn : m = ds.length) (hal : ∀ i h, St i h → ∀ b ∈ fp, ∃ o, h.get? b = some o)
    (hP : ∀ i v d, P i v → ds[i]? = some d → VD w c₀.p c₀.φ v d) (hlet : ∀ i v (s : Shared) (Q : Unit → Shared → Prop), St (i + 1) s.heap → P i v → Q () s → wpAny (model pw w) A (letOwnedTupleGo tgt (.ref I) v) Q Ef s) : Src w g A tgt c₀ I fp wr ds St where
  sub := Wk.sub
  frame := Wk.frame
  al := hal
  self i s Q E st q := Wk.self i s Q E st q
  item i d c Y Q hd W G st H k := Wk.item i c.s _ _ (hn ▸ (List.getElem?_eq_some_iff.mp hd).1) st fun v h' tk hv st' hk => ⟨v, rfl, hlet i v _ _ st' hv (k v _ _ (next_of W G H Wk.sub hk (.inl (hal _ _ st'))) ((hP i v d hv hd).mono G.ps G.fs) st')⟩
  done c Y Q W G st H k := Wk.done c.s _ _ (hn ▸ st) fun h' tk hk => ⟨rfl, k _ _ (next_of W G H Wk.sub hk (.inr fun b m => (H.w1 b m).2.2))⟩
theorem Src.ofWalksT {elts : List Expr} {kk : Nat} {pos : Pos} {c₀ : Cf} {I : Addr} {fp wr : List Addr} {m : Nat} {ds : List D} {P : Nat → Array Value → Prop} {St : Nat → Heap → Prop} {Mid : Nat → Addr → Heap → Prop} (Wk : WalksT pw w A I fp wr m P St Mid) (hn : m = ds.length) (hal : ∀ i h, St i h → ∀ b ∈ fp, ∃ o, h.get? b = some o)
    (hP : ∀ i vals d, P i vals → ds[i]? = some d → ∃ dl, d = mkTup dl ∧ VDs w c₀.p c₀.φ vals.toList dl) : Src w g A (.Tuple elts kk pos) c₀ I fp wr ds St where
  sub := Wk.sub
  frame := Wk.frame
  al := hal
  self i s Q E st q := Wk.self i s Q E st q
  item i d c Y Q hd W G st H k := Wk.item i c.s _ _ (hn ▸ (List.getElem?_eq_some_iff.mp hd).1) st fun T vals h' tk hv hT it mid hk => ⟨.ref T, rfl, Wk.go elts kk pos i T _ _ _ mid fun h'' st' hk' => by
    have N := next_of (tk := tk) W G H Wk.sub (h' := h'') (fun a o m e => hk' a o m (hk a o m e)) (.inl (hal _ _ st'))
    obtain ⟨oT, eT, cT, nT, dT⟩ := it
    have eT' : h''.get? T = some oT := hk' T oT (Wk.apart _ _ _ mid) eT
    have nal : ¬ Al c.s T := fun ⟨o, q⟩ => absurd (Heap.lt_size q) (Nat.not_lt.mpr hT)
    have G1 := N.go
    obtain ⟨dl, rfl, V⟩ := hP i vals d hv hd
    refine k (.ref T) (addP c.p T oT) _ ⟨addP_l, fun a o q => (show c.p a o ∨ (a = T ∧ o = oT) from q).imp id fun (q : a = T ∧ o = oT) => q.1 ▸ nal, N.wd.hold (a := T) (o := oT) eT' fun l => nal (W.lvlt l), ⟨fun a o q => addP_l a o (G1.ps a o q), fun a o q => (show c.p a o ∨ (a = T ∧ o = oT) from q).elim (G1.pn a o) fun (q : a = T ∧ o = oT) => .inr (.inl fun z => nal (G.sz _ (q.1 ▸ z))), G1.fs, G1.kp, G1.lv, G1.sz, G1.st, G1.ph⟩, N.kp⟩ ?_ st'
    exact mkTup_ok (vs := vals.toList) addP_r ⟨cT, nT, by rw [dT]⟩ (V.mono (fun a o q => addP_l a o (G.ps a o q)) G.fs)⟩
  done c Y Q W G st H k := Wk.done c.s _ _ (hn ▸ st) fun h' tk hk => ⟨rfl, k _ _ (next_of W G H Wk.sub hk (.inr fun b m => (H.w1 b m).2.2))⟩
theorem Next.fm {c₀ c : Cf} {Y wr : List Addr} {p' : Pm} {s' : Shared} (N : Next w g c₀ c Y wr p' s') (F : Fm w env sc ρ c) (hw : ∀ a ∈ frm env, a ∉ wr) : Fm w env sc ρ ⟨p', c.φ, c.H, s'⟩ where
  kind := F.kind
  glb := F.glb
  blt := F.blt
  loc := F.loc
  cel := F.cel
  fre := F.fre
  gli := F.gli
  ns := let ⟨m, n, h⟩ := F.ns; ⟨m, n.at' fun o e => N.kp _ o (hw _ (.head _)) e, fun x d e k => let ⟨v, a, b⟩ := h x d e k; ⟨v, a, b.mono N.p (List.prefix_refl _)⟩⟩
  cl x d e k := let ⟨a, v, h1, ⟨o, h2, h3⟩, h4⟩ := F.cl x d e k; ⟨a, v, h1, ⟨o, N.kp _ o (hw _ (cells_frm (lookup_mem h1))) h2, h3⟩, h4.mono N.p (List.prefix_refl _)⟩
  ce x a h := let ⟨⟨ov, o, h2, h3⟩, n⟩ := F.ce x a h; ⟨⟨ov, o, N.kp _ o (hw _ (cells_frm h)) h2, h3⟩, n⟩
  ap := F.ap
  nl a h := ⟨(F.nl a h).1, fun o p => (N.q a o p).elim ((F.nl a h).2 o) fun z => z (F.lt h)⟩
theorem Next.hold' {c₀ c : Cf} {Y wr fp' wr' : List Addr} {p' : Pm} {s' : Shared} (N : Next w g c₀ c Y wr p' s') (H : Hold c₀ c Y fp' wr') (al : ∀ b ∈ wr', Al c.s b) : Hold c₀ ⟨p', c.φ, c.H, s'⟩ Y fp' wr' :=
  ⟨fun b m => ⟨(H.w1 b m).1, fun o p => (N.q b o p).elim ((H.w1 b m).2.1 o) fun z => z (al b m), (H.w1 b m).2.2⟩, H.f1⟩
theorem Hold.go {c₀ c c' : Cf} {Y fp wr : List Addr} (H : Hold c₀ c Y fp wr) (G : Go Y c c') (al : ∀ b ∈ fp, Al c.s b) (hs : ∀ b ∈ wr, b ∈ fp) : Hold c₀ c' Y fp wr :=
  ⟨fun b m => ⟨(H.w1 b m).1, fun o p => (G.pn b o p).elim ((H.w1 b m).2.1 o) fun q => q.elim (fun q => q (al b (hs b m))) (H.f1 b (hs b m)).1, fun q => (G.ph b q).elim (H.w1 b m).2.2 fun z => z (al b (hs b m))⟩,
   fun b m => ⟨fun q => (G.lv b q).elim (H.f1 b m).1 fun z => z (al b m), (H.f1 b m).2⟩⟩
theorem Src.go {tgt : Expr} {c₀ c c' : Cf} {I : Addr} {Y fp wr : List Addr} {ds : List D} {St : Nat → Heap → Prop} {i : Nat} (S : Src w g A tgt c₀ I fp wr ds St) (H : Hold c₀ c Y fp wr) (G : Go Y c c') (st : St i c.s.heap) : St i c'.s.heap :=
  S.frame i _ _ st fun b m o e => G.kp b o e (H.f1 b m).1 (H.f1 b m).2

/-! ### the sources -/
theorem let_int {tgt : Expr} {it : Value} {i : Int} {t : Tok} {s : Shared} {Q : Unit → Shared → Prop} {E : Value → Shared → Prop} (h : Q () s) : wpAny (model pw w) A (letOwnedTupleGo tgt it (.int i t)) Q E s := by
  cases tgt with
  | Tuple => cases it <;> exact wpAny_pure h
  | List => cases it <;> exact wpAny_pure h
  | _ => exact wpAny_pure h
theorem let_tup {xs : List Expr} {p : Pos} {I : Addr} {v : Value} {s : Shared} {Q : Unit → Shared → Prop} {E : Value → Shared → Prop} {o : Obj} {nm : String} (ho : s.heap.get? I = some o) (hc : o.cls = .type nm)
    (hn : (["enumerate", "zip", "dict_itemiterator", "dict_reverseitemiterator", "odict_iterator", "itertools.zip_longest", "itertools.pairwise"] : List String).contains nm = false) (h : Q () s) : wpAny (model pw w) A (letOwnedTupleGo (.List xs p) (.ref I) v) Q E s := by
  cases v with
  | ref a =>
    refine wpAny_bind (wpAny_load ho ?_)
    rw [hc]
    cases o.data with
    | fields vs =>
      show wpAny _ _ (if ((["enumerate", "zip", "dict_itemiterator", "dict_reverseitemiterator", "odict_iterator", "itertools.zip_longest", "itertools.pairwise"] : List String).contains nm && vs[0]? == some (rawInt a)) = true then _ else _) _ _ _
      rw [if_neg (by rw [hn, Bool.false_and]; exact Bool.false_ne_true)]
      exact wpAny_pure h
    | _ => exact wpAny_pure h
  | _ => exact wpAny_pure h
theorem let_tgt {tgt : Expr} {I : Addr} {v : Value} {s : Shared} {Q : Unit → Shared → Prop} {o : Obj} {nm : String} (ho : s.heap.get? I = some o) (hc : o.cls = .type nm)
    (hn : (["enumerate", "zip", "dict_itemiterator", "dict_reverseitemiterator", "odict_iterator", "itertools.zip_longest", "itertools.pairwise"] : List String).contains nm = false) (h : Q () s) : wpAny (model pw w) A (letOwnedTupleGo tgt (.ref I) v) Q Ef s := by
  cases tgt with
  | Tuple xs k p => exact let_tup (xs := xs) (p := p) ho hc hn h
  | List xs p => exact let_tup ho hc hn h
  | _ => exact wpAny_pure h
end
end Mine

end
noncomputable section
set_option Elab.async false
set_option maxRecDepth 100000
set_option maxHeartbeats 1000000
set_option linter.unusedVariables false
/-! what a loop goes over: lists, tuples, ranges, pairs -/
open PySem PySem.W PySem.Spec PySem.Calls PyProof.Rows
open PySem.SeqAt
namespace Mine
section
variable {w : World} {g : Heap} {c : Cf} {A : Around}
theorem VDs.nth {p : Pm} {φ : Phi} {vs : List Value} {ds : List D} (V : VDs w p φ vs ds) {i : Nat} {v : Value} {d : D} (hv : vs[i]? = some v) (hd : ds[i]? = some d) : VD w p φ v d := by
  obtain ⟨u, h1, h2⟩ := V.get hd
  exact Option.some.inj (h1.symm.trans hv) ▸ h2
theorem all2 {P : Addr → Prop} {a b : Addr} (h1 : P a) (h2 : P b) : ∀ x ∈ [a, b], P x := fun x m => (List.mem_cons.mp m).elim (fun e => e ▸ h1) fun m => List.mem_singleton.mp m ▸ h2
theorem all1 {P : Addr → Prop} {a : Addr} (h1 : P a) : ∀ x ∈ [a], P x := fun x m => List.mem_singleton.mp m ▸ h1
theorem allC {P : Addr → Prop} {a : Addr} {l : List Addr} (h1 : P a) (h2 : ∀ x ∈ l, P x) : ∀ x ∈ a :: l, P x := fun x m => (List.mem_cons.mp m).elim (fun e => e ▸ h1) (h2 x)
theorem src_list (hh : A.handled = none) (W : Wd w g c) {tgt : Expr} {a : Addr} {o : Obj} {vs : List Value} {fs : List F} (ha : c.p a o) (il : isL o vs) (V : VFs w c.p vs fs) :
    wpAny (model pw w) A (pyIter (.ref a)) (fun it s' => SrcAt w g A tgt c (dF fs) s' it) Ef c.s := by
  have IL := il.isList (W.sub _ _ ha)
  have ne : a ≠ c.s.heap.objs.size := Nat.ne_of_lt (Heap.lt_size (W.sub _ _ ha))
  refine wpAny_pyIter_list IL ⟨c.s.heap.objs.size, _, _, _, Src.ofWalks (Walks.list hh c.s.heap.objs.size a ne vs.toArray) (by rw [List.size_toArray]; exact (V.toD (φ := c.φ)).length) (fun i h st => all2 (let ⟨o, e, _⟩ := st.1; ⟨o, e⟩) (let ⟨o, e, _⟩ := st.2; ⟨o, e⟩)) (fun i v d hv hd => (V.toD).nth (by simpa using hv) hd) (fun i v s Q st hv q => let ⟨o, e, hc, _⟩ := st.1; let_tgt e hc (by decide) q),
    ⟨⟨_, Heap.get?_push_size _ rfl, rfl, rfl⟩, IL.push _⟩, all1 (noAl _), all2 (.inl (noAl _)) (.inr ⟨_, ha⟩), fun b x e => Heap.get?_push_of_some _ e, rfl⟩
theorem src_tuple (hh : A.handled = none) (W : Wd w g c) {tgt : Expr} {a : Addr} {o : Obj} {vs : List Value} {ds : List D} (ha : c.p a o) (il : isT o vs) (V : VDs w c.p c.φ vs ds) :
    wpAny (model pw w) A (pyIter (.ref a)) (fun it s' => SrcAt w g A tgt c ds s' it) Ef c.s := by
  have IL : c.s.heap.IsTuple a vs.toArray := il.isTup (W.sub _ _ ha)
  have ne : a ≠ c.s.heap.objs.size := Nat.ne_of_lt (Heap.lt_size (W.sub _ _ ha))
  refine wpAny_pyIter_tuple IL ⟨c.s.heap.objs.size, _, _, _, Src.ofWalks (Walks.tuple hh c.s.heap.objs.size a ne vs.toArray) (by rw [List.size_toArray]; exact V.length) (fun i h st => all2 (let ⟨o, e, _⟩ := st.1; ⟨o, e⟩) (let ⟨o, e, _⟩ := st.2; ⟨o, e⟩)) (fun i v d hv hd => V.nth (by simpa using hv) hd) (fun i v s Q st hv q => let ⟨o, e, hc, _⟩ := st.1; let_tgt e hc (by decide) q),
    ⟨⟨_, Heap.get?_push_size _ rfl, rfl, rfl⟩, let ⟨o, e, r⟩ := IL; ⟨o, Heap.get?_push_of_some _ e, r⟩⟩, all1 (noAl _), all2 (.inl (noAl _)) (.inr ⟨_, ha⟩), fun b x e => Heap.get?_push_of_some _ e, rfl⟩
theorem rngL_get {a b : Int} {i : Nat} {d : D} (h : (rngL a b)[i]? = some d) : d = .f (.int (a + i)) := by
  unfold rngL at h
  rw [List.getElem?_map] at h
  refine m1 (P := fun d => d = .f (.int (a + i))) h fun x e => ?_
  rw [List.getElem?_range (by
    have := (List.getElem?_eq_some_iff.mp e).1; simpa using this)] at e
  cases e; rfl
theorem src_range (hh : A.handled = none) (W : Wd w g c) {tgt : Expr} {r : Addr} {o : Obj} {a b : Int} (ha : c.p r o) (ir : isR o a b) (h1 : a.natAbs ≤ 100000) (h2 : b.natAbs ≤ 100000) :
    wpAny (model pw w) A (pyIter (.ref r)) (fun it s' => SrcAt w g A tgt c (rngL a b) s' it) Ef c.s := by
  obtain ⟨t, u, v, rfl⟩ := ir
  have IR : IsRange c.s.heap r a b 1 t u v := W.sub _ _ ha
  have hl : (rngL a b).length = (b - a).toNat := by simp [rngL]
  refine wpAny_pyIter_range IR (small_one (by omega) (by omega) (by omega) (by omega)) ⟨c.s.heap.objs.size, _, _, _, Src.ofWalks (Walks.range hh c.s.heap.objs.size a 1 (b - a).toNat) hl.symm (fun i h st => all1 ⟨_, st⟩) (fun i v d hv hd => ?_) (fun i v s Q st hv q => ?_), ?_, all1 (noAl _), all1 (.inl (noAl _)), fun b x e => Heap.get?_push_of_some _ e, rfl⟩
  · obtain ⟨t, rfl⟩ := hv
    rw [rngL_get hd, Int.mul_one]
    exact .f (.int _ _)
  · obtain ⟨t, rfl⟩ := hv; exact let_int q
  · have e : Builtin.Range.rangeSize a b 1 = ((b - a).toNat : Int) := by rw [rangeSize_one]; split <;> omega
    have := Heap.get?_push_size c.s.heap (o := { cls := .type "range_iterator", data := .fields #[rawInt a, rawInt (Builtin.Range.rangeSize a b 1), rawInt 1] }) rfl
    rw [e] at this ⊢
    simpa using this
/-- a list frozen, at once -/
inductive LstF (w : World) (g : Heap) (c : Cf) (v : Value) (fs : List F) (H' : Hp) : Prop
  | mk {p : Pm} {a : Addr} {o : Obj} {vs : List Value} : Wd w g ⟨p, c.φ, H', c.s⟩ → Go [] c ⟨p, c.φ, H', c.s⟩ → v = .ref a → p a o → isL o vs → VFs w p vs fs → LstF w g c v fs H'
theorem lstOf_ok (W : Wd w g c) {v : Value} {d : D} {fs : List F} {H' : Hp} (V : VD w c.p c.φ v d) (h : lstOf d c.H = some (fs, H')) : LstF w g c v fs H' :=
  bE h fun x H1 h1 h => m1 (P := fun y => ∀ fs H', (fs, H') = y → LstF w g c v fs H') h (fun l e fs H' e' => by
    cases e'
    obtain ⟨W', G', V'⟩ := fz_ok _ c d _ _ v W V h1
    have e1 : fLst x = some l := (limL_ok e).1
    rw [fLst_eq e1] at V'
    obtain ⟨a, o, vs, e, ha, il, Vl⟩ := V'.inv
    exact ⟨W', G', e, ha, il, Vl⟩) fs H' rfl
/-- a source, made by a run -/
inductive SrcOut (w : World) (g : Heap) (A : Around) (tgt : Expr) (c : Cf) (ds : List D) (H' : Hp) (it : Value) (s' : Shared) : Prop
  | mk {p : Pm} {φ : Phi} {s0 : Shared} : Wd w g ⟨p, φ, H', s0⟩ → Go [] c ⟨p, φ, H', s0⟩ → SrcAt w g A tgt ⟨p, φ, H', s0⟩ ds s' it → SrcOut w g A tgt c ds H' it s'
theorem SrcOut.after {c' : Cf} {tgt : Expr} {ds : List D} {H' : Hp} {it : Value} {s' : Shared} (G : Go [] c c') (h : SrcOut w g A tgt c' ds H' it s') : SrcOut w g A tgt c ds H' it s' :=
  let ⟨a, b, e⟩ := h; ⟨a, G.trans b, e⟩
theorem itemsOf_cases {d : D} {ds : List D} {H H' : Hp} {P : Prop} (h : itemsOf d H = some (ds, H')) (h1 : ∀ x, (unF d).bind fRng = some x → itemsR x = some ds → H' = H → P) (h2 : asTup d = some ds → H' = H → P) (h3 : ∀ fs, lstOf d H = some (fs, H') → ds = dF fs → P) : P := by
  unfold itemsOf at h
  cases q : (unF d).bind fRng with
  | some x => rw [q] at h; exact m1 (P := fun y => (ds, H') = y → P) h (fun l e e' => by cases e'; exact h1 x q e rfl) rfl
  | none =>
    rw [q] at h
    cases q2 : asTup d with
    | some l => rw [q2] at h; cases h; exact h2 q2 rfl
    | none => rw [q2] at h; exact m1 (P := fun y => (ds, H') = y → P) h (fun l e e' => by cases e'; exact h3 l.1 e rfl) rfl
theorem items_ok (hh : A.handled = none) (W : Wd w g c) {tgt : Expr} {v : Value} {d : D} {ds : List D} {H' : Hp} (V : VD w c.p c.φ v d) (h : itemsOf d c.H = some (ds, H')) :
    wpAny (model pw w) A (pyIter v) (fun it s' => SrcOut w g A tgt c ds H' it s') Ef c.s := by
  refine itemsOf_cases h (fun x q e eH => ?_) (fun q eH => ?_) fun fs e ed => ?_
  · subst eH
    refine i1 e fun q2 e => ?_
    cases e
    simp only [Bool.and_eq_true, decide_eq_true_eq] at q2
    obtain ⟨y, V, e⟩ := dFp V q
    rw [fRng_eq e] at V
    obtain ⟨a, o, rfl, ha, ir⟩ := V.inv
    exact wpOut (src_range hh W ha ir q2.1 q2.2) fun it s' o => ⟨W, Go.refl, o⟩
  · subst eH
    obtain ⟨a, o, vs, rfl, ha, it, Vs⟩ := asTup_ok V q
    exact wpOut (src_tuple hh W ha it Vs) fun it s' o => ⟨W, Go.refl, o⟩
  · subst ed
    obtain ⟨W', G', rfl, ha, il, Vl⟩ := lstOf_ok W V e
    exact wpOut (src_list hh W' ha il Vl) fun it s' o => ⟨W', G', o⟩

/-! ### pairs -/
theorem enumL_get (l : List D) : ∀ {m i : Nat} {d : D}, (enumL m l)[i]? = some d → ∃ x, l[i]? = some x ∧ d = mkTup [.f (.int ((m + i : Nat) : Int)), x] := by
  induction l with
  | nil => intro m i d h; exact nn h
  | cons y r ih =>
    intro m i d h
    cases i with
    | zero => cases h; exact ⟨y, rfl, rfl⟩
    | succ i =>
      obtain ⟨x, h1, h2⟩ := ih (m := m + 1) h
      exact ⟨x, h1, by rw [h2, Nat.add_right_comm]; rfl⟩
theorem enumL_len (l : List D) : ∀ {m : Nat}, (enumL m l).length = l.length := by
  induction l with
  | nil => exact fun {_} => rfl
  | cons y r ih => exact fun {m} => congrArg (· + 1) (ih (m := m + 1))
theorem zipL_get (l : List D) : ∀ {k : List D} {i : Nat} {d : D}, (zipL l k)[i]? = some d → ∃ x y, l[i]? = some x ∧ k[i]? = some y ∧ d = mkTup [x, y] := by
  induction l with
  | nil => intro k i d h; cases k <;> exact nn h
  | cons x l ih =>
    intro k i d h
    cases k with
    | nil => exact nn h
    | cons y k =>
      cases i with
      | zero => cases h; exact ⟨x, y, rfl, rfl, rfl⟩
      | succ i => exact ih (k := k) h
theorem zipL_len (l : List D) : ∀ {k : List D}, (zipL l k).length = min l.length k.length := by
  induction l with
  | nil => intro k; rw [List.length_nil, Nat.zero_min]; cases k <;> rfl
  | cons x l ih =>
    intro k
    cases k with
    | nil => rw [List.length_nil, Nat.min_zero]; rfl
    | cons y k => rw [List.length_cons, List.length_cons, Nat.succ_min_succ, ← ih]; rfl
theorem noAl_add (s : Shared) (k : Nat) : ¬ Al s (s.heap.objs.size + k) := fun ⟨o, q⟩ => absurd (Heap.lt_size q) (Nat.not_lt.mpr (Nat.le_add_right _ _))
theorem enum_ok (hh : A.handled = none) (W : Wd w g c) {elts : List Expr} {kk : Nat} {pos : Pos} {a : Addr} {o : Obj} {vs : List Value} {fs : List F} (ha : c.p a o) (il : isL o vs) (V : VFs w c.p vs fs) :
    wpAny (model pw w) A (call (.type "enumerate") [.ref a]) (fun xv s₁ => wpAny (model pw w) A (pyIter xv) (fun it s' => SrcAt w g A (.Tuple elts kk pos) c (enumL 0 (dF fs)) s' it) Ef s₁) Ef c.s := by
  have IL := il.isList (W.sub _ _ ha)
  have lt := Heap.lt_size (W.sub _ _ ha)
  refine call_enumerate_list IL fun h' he hit hz hk => wpAny_pyIter_enum he ⟨_, _, _, _, Src.ofWalksT (WalksT.enumerate hh (c.s.heap.objs.size + 1) c.s.heap.objs.size a (Nat.succ_ne_self _) (Nat.ne_of_lt (Nat.lt_succ_of_lt lt)) (Nat.ne_of_lt lt) vs.toArray) (by rw [enumL_len, List.size_toArray]; exact (V.toD (φ := c.φ)).length) (fun i h st => ?_) (fun i vals d hv hd => ?_),
    ⟨⟨_, he⟩, hit, let ⟨o, e, r⟩ := IL; ⟨o, hk _ _ e, r⟩⟩, all2 (noAl_add _ 1) (noAl _), allC (.inl (noAl_add _ 1)) (all2 (.inl (noAl _)) (.inr ⟨_, ha⟩)), hk, rfl⟩
  · obtain ⟨⟨old, s1⟩, ⟨o2, s2, _⟩, ⟨o3, s3, _⟩⟩ := st
    exact allC ⟨_, s1⟩ (all2 ⟨_, s2⟩ ⟨_, s3⟩)
  · obtain ⟨t, x, h1, rfl⟩ := hv
    obtain ⟨y, h2, rfl⟩ := enumL_get _ hd
    refine ⟨_, rfl, ?_⟩
    rw [Nat.zero_add]
    exact .cons (.f (.int _ _)) (.cons ((V.toD).nth (by simpa using h1) h2) .nil)
theorem zip_ok (hh : A.handled = none) (W : Wd w g c) {elts : List Expr} {kk : Nat} {pos : Pos} {a b : Addr} {o o2 : Obj} {vs ws : List Value} {fs gs : List F} (ha : c.p a o) (il : isL o vs) (V : VFs w c.p vs fs) (hb : c.p b o2) (il2 : isL o2 ws) (V2 : VFs w c.p ws gs) :
    wpAny (model pw w) A (call (.type "zip") [.ref a, .ref b]) (fun xv s₁ => wpAny (model pw w) A (pyIter xv) (fun it s' => SrcAt w g A (.Tuple elts kk pos) c (zipL (dF fs) (dF gs)) s' it) Ef s₁) Ef c.s := by
  have IL := il.isList (W.sub _ _ ha)
  have IL2 := il2.isList (W.sub _ _ hb)
  have lt := Heap.lt_size (W.sub _ _ ha)
  have lt2 := Heap.lt_size (W.sub _ _ hb)
  refine call_zip_2 IL IL2 fun h' hz hTI hTO h1 h2 hsz hk => wpAny_pyIter_zip hz ⟨_, _, _, _, Src.ofWalksT (WalksT.zip2 hh _ _ _ _ _ a b (zipApart_new lt lt2) vs.toArray ws.toArray) (by rw [zipL_len, ← (V.toD (φ := c.φ)).length, ← (V2.toD (φ := c.φ)).length, List.size_toArray, List.size_toArray]) (fun i h st => ?_) (fun i vals d hv hd => ?_),
    ⟨hz, hTI, ⟨_, _, hTO⟩, h1, h2, let ⟨o, e, r⟩ := IL; ⟨o, hk _ _ e, r⟩, let ⟨o, e, r⟩ := IL2; ⟨o, hk _ _ e, r⟩⟩, allC (noAl_add _ 4) (allC (noAl_add _ 3) (all2 (noAl _) (noAl_add _ 1))),
    allC (.inl (noAl_add _ 4)) (allC (.inl (noAl_add _ 2)) (allC (.inl (noAl_add _ 3)) (allC (.inl (noAl _)) (allC (.inl (noAl_add _ 1)) (all2 (.inr ⟨_, ha⟩) (.inr ⟨_, hb⟩)))))), hk, rfl⟩
  · obtain ⟨s1, s2, ⟨x, y, s3⟩, ⟨o4, s4, _⟩, ⟨o5, s5, _⟩, ⟨o6, s6, _⟩, ⟨o7, s7, _⟩⟩ := st
    exact allC ⟨_, s1⟩ (allC ⟨_, s2⟩ (allC ⟨_, s3⟩ (allC ⟨_, s4⟩ (allC ⟨_, s5⟩ (all2 ⟨_, s6⟩ ⟨_, s7⟩)))))
  · obtain ⟨x, y, h1, h2, rfl⟩ := hv
    obtain ⟨x', y', h3, h4, rfl⟩ := zipL_get _ hd
    exact ⟨_, rfl, .cons ((V.toD).nth (by simpa using h1) h3) (.cons ((V2.toD).nth (by simpa using h2) h4) .nil)⟩
end
end Mine

end
noncomputable section
set_option Elab.async false
set_option maxRecDepth 100000
set_option maxHeartbeats 1000000
set_option linter.unusedVariables false
/-! loops -/
open PySem PySem.W PySem.Spec PySem.Calls PyProof.Rows
open PySem.SeqAt
namespace Mine
theorem callN_eq {e : Expr} {x : Str × List Expr} (h : callN e = some x) : ∃ np p, e = .Call (.Name x.1 np) x.2 [] p := by
  cases e with
  | Call f as ks p =>
    cases ks with
    | nil =>
      refine m1 (P := fun x => ∃ np q, Expr.Call f as [] p = .Call (.Name x.1 np) x.2 [] q) h fun y e => ?_
      obtain ⟨np, rfl⟩ := nameE_eq e
      exact ⟨np, p, rfl⟩
    | cons => exact nn h
  | _ => exact nn h
theorem b3 {x : Option (Fl × Rho × Hp)} {β : Type} {f : Fl × Rho × Hp → Option β} {y : β} {P : Prop} (h : x.bind f = some y) (k : ∀ fl ρ H, x = some (fl, ρ, H) → f (fl, ρ, H) = some y → P) : P := by
  cases x with
  | none => exact nn h
  | some a => exact k a.1 a.2.1 a.2.2 rfl h
theorem drop_cases {α : Type} (l : List α) (i : Nat) (hi : i ≤ l.length) : (i = l.length ∧ l.drop i = []) ∨ ∃ d, l[i]? = some d ∧ l.drop i = d :: l.drop (i + 1) := by
  rcases Nat.lt_or_eq_of_le hi with h | h
  · exact .inr ⟨l[i], List.getElem?_eq_getElem h, List.drop_eq_getElem_cons h⟩
  · exact .inl ⟨h, by rw [h, List.drop_length]⟩
section
variable {w : World} {g : Heap} {c : Cf} {A : Around} {env : Env} {sc : Sc} {ρ : Rho} {T : Tabs} {R : Rec} {n : Nat} {mg mb : Str → Option Value} {K : Frag}
/-- what a source is made by -/
noncomputable abbrev ItersOk (w : World) (g : Heap) (A : Around) (tgt : Expr) (c : Cf) (env : Env) (e : Expr) (ds : List D) (H' : Hp) : Prop := wpAny (model pw w) A (eval e env) (fun xv s₁ => wpAny (model pw w) A (pyIter xv) (fun it s₂ => SrcOut w g A tgt c ds H' it s₂) Ef s₁) Ef c.s
theorem plainI_ok (RS : RS w g n R) (hr : Rm A n) (W : Wd w g c) (F : Fm w env sc ρ c) {tgt e : Expr} {ds : List D} {H' : Hp} (h : plainI R sc e ρ c.H = some (ds, H')) : ItersOk w g A tgt c env e ds H' :=
  bE h fun d H1 h1 h => wpK (exV_ok RS hr c e d H1 W F h1) fun v p φ s1 W1 G1 V1 => wpOut (items_ok hr.2.2 W1 V1 h) fun it s2 o => o.after G1
theorem gi_var {x : Str} {v : Mine.F} (h : isGI sc x = true) (e : T.gl x = some v) : var T sc ρ x = some (.f v) := by
  unfold var
  rw [eq_of_beq (show (sc.lookup x == some .globalImplicit) = true from h)]
  show (T.gl x).map _ = _
  rw [e]; rfl
theorem enumI_ok (GD : Gd w g T mg mb) (GF : Gf w g K T) (RS : RS w g n R) (hr : Rm A n) (W : Wd w g c) (F : Fm w env sc ρ c) {tgt a : Expr} {np pos : Pos} {ds : List D} {H' : Hp} (ht : (tupE tgt).isSome = true) (h : enumI R sc a ρ c.H = some (ds, H')) :
    ItersOk w g A tgt c env (.Call (.Name "enumerate" np) [a] [] pos) ds H' := by
  refine i1 h fun q h => bE h fun d H1 h1 h => m1 (P := fun y => (ds, H') = y → ItersOk w g A tgt c env (.Call (.Name "enumerate" np) [a] [] pos) ds H') h (fun y h2 e => ?_) rfl
  cases e
  obtain ⟨q1, q2⟩ := Bool.and_eq_true_iff.mp q
  obtain ⟨es, ht⟩ := Option.isSome_iff_exists.mp ht
  obtain ⟨x1, x2, rfl⟩ := tupE_eq ht
  refine wpAny_Call_Name_kw (wpK (ex_Name GD W F (pos := np) rfl (gi_var q1 GF.en)) fun v p φ s1 W1 G1 V1 => ?_)
  obtain rfl : v = .type "enumerate" := V1.uf.inv
  rw [star_plain ((Bool.not_eq_true' _).mp q2)]
  refine PyProof.Rows.callWith_type rfl (evalArgs_plain (Calls.spliced_cons (wpK (RS.ex A env sc a ρ _ d H1 hr W1 (F.go G1) h1) fun v p2 φ2 s2 W2 G2 V2 => Calls.spliced_nil ?_)))
  obtain ⟨W3, G3, rfl, ha, il, Vl⟩ := lstOf_ok W2 V2 h2
  exact wpOut (enum_ok hr.2.2 W3 ha il Vl) fun xv s4 o => wpOut o fun it s5 o => ⟨W3, (G1.trans G2).trans G3, o⟩
theorem zipI_ok (GD : Gd w g T mg mb) (GF : Gf w g K T) (RS : RS w g n R) (hr : Rm A n) (W : Wd w g c) (F : Fm w env sc ρ c) {tgt a b : Expr} {np pos : Pos} {ds : List D} {H' : Hp} (ht : (tupE tgt).isSome = true) (h : zipI R sc a b ρ c.H = some (ds, H')) :
    ItersOk w g A tgt c env (.Call (.Name "zip" np) [a, b] [] pos) ds H' := by
  refine i1 h fun q h => bE h fun d H1 h1 h => bE h fun d2 H2 h2 h => bE h fun fs H3 h3 h => m1 (P := fun y => (ds, H') = y → ItersOk w g A tgt c env (.Call (.Name "zip" np) [a, b] [] pos) ds H') h (fun y h4 e => ?_) rfl
  cases e
  obtain ⟨q1, q3⟩ := Bool.and_eq_true_iff.mp q
  obtain ⟨q1, q2⟩ := Bool.and_eq_true_iff.mp q1
  obtain ⟨es, ht⟩ := Option.isSome_iff_exists.mp ht
  obtain ⟨x1, x2, rfl⟩ := tupE_eq ht
  refine wpAny_Call_Name_kw (wpK (ex_Name GD W F (pos := np) rfl (gi_var q1 GF.zp)) fun v p φ s1 W1 G1 V1 => ?_)
  obtain rfl : v = .type "zip" := V1.uf.inv
  rw [star_plain ((Bool.not_eq_true' _).mp q2), star_plain ((Bool.not_eq_true' _).mp q3)]
  refine PyProof.Rows.callWith_type rfl (evalArgs_plain (Calls.spliced_cons (wpK (RS.ex A env sc a ρ _ d H1 hr W1 (F.go G1) h1) fun v p2 φ2 s2 W2 G2 V2 => Calls.spliced_cons (wpK (RS.ex A env sc b ρ _ d2 H2 hr W2 (F.go (G1.trans G2)) h2) fun v2 p3 φ3 s3 W3 G3 V3 => Calls.spliced_nil ?_))))
  obtain ⟨W4, G4, rfl, ha, il, Vl⟩ := lstOf_ok W3 (V2.mono G3.ps G3.fs) h3
  obtain ⟨W5, G5, rfl, hb, il2, Vl2⟩ := lstOf_ok W4 (V3.mono G4.ps G4.fs) h4
  exact wpOut (zip_ok hr.2.2 W5 (G5.ps _ _ ha) il (Vl.mono G5.ps) hb il2 Vl2) fun xv s6 o => wpOut o fun it s7 o => ⟨W5, (((G1.trans G2).trans G3).trans G4).trans G5, o⟩
theorem tgt_tup {tgt e : Expr} {x : Str × List Expr} (h : tgtOk tgt e = true) (e2 : callN e = some x) (e3 : (!(x.1 == ("enumerate" : Str)) && !(x.1 == ("zip" : Str))) = false) : (tupE tgt).isSome = true := by
  unfold tgtOk at h
  rw [e2] at h
  dsimp only at h
  rw [e3, Bool.and_false, Bool.or_false] at h
  exact h
theorem iters_ok (GD : Gd w g T mg mb) (GF : Gf w g K T) (RS : RS w g n R) (hr : Rm A n) (W : Wd w g c) (F : Fm w env sc ρ c) {tgt e : Expr} {ds : List D} {H' : Hp} (ht : tgtOk tgt e = true) (h : iters R sc e ρ c.H = some (ds, H')) : ItersOk w g A tgt c env e ds H' := by
  unfold iters at h
  cases q : callN e with
  | none => rw [q] at h; exact plainI_ok RS hr W F h
  | some x =>
    rw [q] at h
    obtain ⟨np, pos, rfl⟩ := callN_eq q
    obtain ⟨nm, as⟩ := x
    refine i2 h (fun e1 h => ?_) fun _ h => i2 h (fun e1 h => ?_) fun _ h => plainI_ok RS hr W F h
    · refine b1 h fun a ha h => ?_
      obtain rfl : nm = "enumerate" := e1
      have ht2 := tgt_tup ht q rfl
      obtain rfl : as = [a] := one_eq ha
      exact enumI_ok GD GF RS hr W F ht2 h
    · refine b1 h fun a ha h => ?_
      obtain rfl : nm = "zip" := e1
      have ht2 := tgt_tup ht q rfl
      obtain rfl : as = [a.1, a.2] := two_eq ha
      exact zipI_ok GD GF RS hr W F ht2 h
theorem SrcAt.hold {c₀ : Cf} {s1 : Shared} {Y fp wr : List Addr} (W : Wd w g c₀) (h1 : ∀ b ∈ wr, ¬ Al c₀.s b) (h2 : ∀ b ∈ fp, ¬ Al c₀.s b ∨ ∃ o, c₀.p b o) (hY : ∀ b ∈ Y, b ∉ fp) : Hold c₀ ⟨c₀.p, c₀.φ, c₀.H, s1⟩ Y fp wr :=
  ⟨fun b m => ⟨h1 b m, fun o p => h1 b m ⟨_, W.sub b o p⟩, fun ⟨k, x, h, q⟩ => h1 b m (W.lt k x b h q)⟩,
   fun b m => ⟨fun l => (h2 b m).elim (fun z => z (W.lvlt l)) fun ⟨o, p⟩ => W.np b o l p, fun q => hY b q m⟩⟩

/-! ### for -/
/-- how a turn of a loop ends -/
noncomputable def TurnEnd (I : Nat → Shared → Prop) (P : Flow → Shared → Prop) (k : Nat) (f : Flow) (s : Shared) : Prop := match f with
  | .next => ∃ m, m < k ∧ I m s
  | .cont => ∃ m, m < k ∧ I m s
  | .brk => P .next s
  | .ret v => P (.ret v) s
noncomputable def ForTurn (w : World) (A : Around) (tgt : Expr) (it : Value) (body : List Stmt) (env : Env) (I : Nat → Shared → Prop) (P : Flow → Shared → Prop) (k : Nat) (r : Option Value) (s : Shared) : Prop := match r with
  | none => P .next s
  | some v => wpAny (model pw w) A (letOwnedTupleGo tgt it v) (fun _ s => wpAny (model pw w) A (assign tgt env v) (fun _ s => wpAny (model pw w) A (execs body env) (TurnEnd I P k) Ef s) Ef s) Ef s
theorem wpE {α : Type} {t : Sem α} {P Q : α → Shared → Prop} {E : Value → Shared → Prop} {s : Shared} (h : wpAny (model pw w) A t P Ef s) (k : ∀ v s', P v s' → Q v s') : wpAny (model pw w) A t Q E s := wpAny_mono h k fun _ _ e => e.elim
inductive ForsAt (w : World) (A : Around) (tgt : Expr) (it : Value) (body : List Stmt) (env : Env) (P : Flow → Shared → Prop) (s : Shared) : Prop
  | mk (I : Nat → Shared → Prop) (k : Nat) : I k s → (∀ k s, I k s → wpAny (model pw w) A (pyNext it) (ForTurn w A tgt it body env I P k) Ef s) → ForsAt w A tgt it body env P s
theorem for_own {P : Flow → Shared → Prop} {tgt it : Expr} {body : List Stmt} {pos : Pos} {s : Shared} (noSet : isSet it = false) (h : wpAny (model pw w) A (eval it env) (fun xv s₁ => wpAny (model pw w) A (pyIter xv) (fun itv s₂ => ForsAt w A tgt itv body env P s₂) Ef s₁) Ef s) :
    wpAny (model pw w) A (exec (.For tgt it body [] pos) env) P Ef s :=
  wpAny_For (wpOut h fun xv s1 h1 => wpOut h1 fun itv s2 h2 => by
    obtain ⟨I, k, h0, turn⟩ := h2
    refine codeAny_forLoop_any I (fun k s h => wpE (turn k s h) fun r s1 h1 => ?_) k h0
    cases r with
    | none => exact wpAny_execs_nil h1
    | some v => exact wpE h1 fun _ s2 h2 => wpE h2 fun _ s3 h3 => wpE h3 fun f s4 h4 => by cases f <;> exact h4) fun x => by cases it <;> first | rfl | cases noSet
inductive ForI (w : World) (g : Heap) (R : Rec) (sc : Sc) (env : Env) (t : Expr) (body : List Stmt) (c₀ : Cf) (fp wr : List Addr) (St : Nat → Heap → Prop) (ds : List D) (fl : Fl) (ρ' : Rho) (H' : Hp) (k : Nat) (s : Shared) : Prop
  | mk {i : Nat} {ρi : Rho} {p : Pm} {φ : Phi} {H : Hp} : k = ds.length - i → i ≤ ds.length → forL R sc t body (ds.drop i) ρi H = some (fl, ρ', H') → Wd w g ⟨p, φ, H, s⟩ → Go (frm env) c₀ ⟨p, φ, H, s⟩ → Fm w env sc ρi ⟨p, φ, H, s⟩ → St i s.heap → Hold c₀ ⟨p, φ, H, s⟩ (frm env) fp wr →
      ForI w g R sc env t body c₀ fp wr St ds fl ρ' H' k s
theorem for_turn (RS : RS w g n R) (hr : Rm A n) {t : Expr} {body : List Stmt} {c₀ : Cf} {I : Addr} {fp wr : List Addr} {St : Nat → Heap → Prop} {ds : List D} {fl : Fl} {ρ' : Rho} {H' : Hp} (S : Src w g A t c₀ I fp wr ds St) (wrf : ∀ a ∈ frm env, a ∉ wr) (G0 : Go (frm env) c c₀) (k : Nat) (s : Shared)
    (h : ForI w g R sc env t body c₀ fp wr St ds fl ρ' H' k s) :
    wpAny (model pw w) A (pyNext (.ref I)) (ForTurn w A t (.ref I) body env (ForI w g R sc env t body c₀ fp wr St ds fl ρ' H') (fun f s' => OutS w g env sc c f fl ρ' H' s') k) Ef s := by
  obtain @⟨i, ρi, p, φ, H, ek, hi, hf, Wi, Gi, Fi, sti, Hi⟩ := h
  rcases drop_cases ds _ hi with ⟨e, hd⟩ | ⟨d, hd, hdr⟩
  · rw [hd] at hf
    cases hf
    subst e
    refine wpOut (S.done _ (frm env) (fun s' => OutS w g env sc c .next .next ρ' H' s') Wi Gi sti Hi fun p' s' N => ⟨N.wd, G0.trans N.go, .next, N.fm Fi wrf⟩) fun r s' z => ?_
    obtain ⟨rfl, o⟩ := z
    exact o
  · rw [hdr] at hf
    refine b1 hf fun ρ2 hb hf => b3 hf fun fl2 ρ3 H3 hst hf => ?_
    have lt : i < ds.length := (List.getElem?_eq_some_iff.mp hd).1
    refine wpOut (S.item _ d _ (frm env) (fun v s' => wpAny (model pw w) A (assign t env v) (fun _ s => wpAny (model pw w) A (execs body env) (TurnEnd (ForI w g R sc env t body c₀ fp wr St ds fl ρ' H') (fun f s' => OutS w g env sc c f fl ρ' H' s') k) Ef s) Ef s') hd Wi Gi sti Hi fun v p' s' N V1 st1 => ?_) fun r s' z => ?_
    · have F1 := N.fm Fi wrf
      have Ho1 := N.hold' Hi fun b m => S.al _ _ sti b (S.sub b m)
      refine wpT (bindT_ok hr.2.2 4 t N.wd N.go F1 (TX.frm F1) V1 hb) fun _ p2 φ2 s2 W2 G2 G2' F2 => ?_
      have Ho2 := Ho1.go G2' (fun b m => S.al _ _ st1 b m) S.sub
      have st2 := S.go Ho1 G2' st1
      refine wpOut (RS.st A env sc body ρ2 _ fl2 ρ3 H3 hr W2 F2 hst) fun f s3 o => ?_
      obtain ⟨W3, G3, Fl, F3⟩ := o
      have nx : forL R sc t body (ds.drop (i + 1)) ρ3 H3 = some (fl, ρ', H') → ∃ m, m < k ∧ ForI w g R sc env t body c₀ fp wr St ds fl ρ' H' m s3 := fun hf =>
        ⟨ds.length - (i + 1), ek ▸ Nat.sub_succ_lt_self _ _ lt, rfl, lt, hf, W3, G2.trans G3, F3, S.go Ho2 G3 st2, Ho2.go G3 (fun b m => S.al _ _ st2 b m) S.sub⟩
      cases Fl with
      | next => exact nx hf
      | cont => exact nx hf
      | brk => cases hf; exact ⟨W3, G0.trans (G2.trans G3), .next, F3⟩
      | ret V => cases hf; exact ⟨W3, G0.trans (G2.trans G3), .ret V, F3⟩
    · obtain ⟨v, rfl, z⟩ := z
      exact z
theorem for_ok (GD : Gd w g T mg mb) (GF : Gf w g K T) (RS : RS w g n R) (hr : Rm A n) (W : Wd w g c) (F : Fm w env sc ρ c) {t it : Expr} {body : List Stmt} {pos : Pos} {ds : List D} {H1 : Hp} {fl : Fl} {ρ' : Rho} {H' : Hp} (hs : isSet it = false) (ht : tgtOk t it = true)
    (h1 : iters R sc it ρ c.H = some (ds, H1)) (h2 : forL R sc t body ds ρ H1 = some (fl, ρ', H')) :
    wpAny (model pw w) A (exec (.For t it body [] pos) env) (fun f s' => OutS w g env sc c f fl ρ' H' s') Ef c.s :=
  for_own hs (wpOut (iters_ok GD GF RS hr W F ht h1) fun xv s1 o => wpOut o fun itv s2 o => by
    obtain @⟨p, φ, s0, W0, G0, o⟩ := o
    obtain ⟨I, fp, wr, St, S, st0, n1, n2, keep, he⟩ := o
    have F0 := F.go G0
    obtain ⟨W1, G1⟩ := W0.grow keep he
    refine ⟨_, _, ⟨rfl, Nat.zero_le _, h2, W1, G1.toX, F0.go G1, st0, SrcAt.hold W0 n1 n2 fun b m q => ?_⟩, for_turn RS hr S (fun a m q => n1 a q (F0.lt m)) G0.toX⟩
    exact (n2 b q).elim (fun z => z (F0.lt m)) fun ⟨o, p⟩ => (F0.nl b m).2 o p)

/-! ### while -/
inductive WhI (w : World) (g : Heap) (R : Rec) (sc : Sc) (env : Env) (cnd : Expr) (body : List Stmt) (c : Cf) (fl : Fl) (ρ' : Rho) (H' : Hp) (k : Nat) (s : Shared) : Prop
  | mk {ρi : Rho} {p : Pm} {φ : Phi} {H : Hp} : whileL R sc cnd body k ρi H = some (fl, ρ', H') → Wd w g ⟨p, φ, H, s⟩ → Go (frm env) c ⟨p, φ, H, s⟩ → Fm w env sc ρi ⟨p, φ, H, s⟩ → WhI w g R sc env cnd body c fl ρ' H' k s
noncomputable def WhTurn (w : World) (A : Around) (body : List Stmt) (env : Env) (I : Nat → Shared → Prop) (P : Flow → Shared → Prop) (k : Nat) (b : Bool) (s : Shared) : Prop := match b with
  | true => wpAny (model pw w) A (execs body env) (TurnEnd I P k) Ef s
  | false => P .next s
theorem while_own {P : Flow → Shared → Prop} {cnd : Expr} {body : List Stmt} {pos : Pos} {s : Shared} (I : Nat → Shared → Prop) (k : Nat) (h : I k s) (turn : ∀ k s, I k s → wpAny (model pw w) A (isTrue cnd env (eval cnd env)) (WhTurn w A body env I P k) Ef s) :
    wpAny (model pw w) A (exec (.While cnd body [] pos) env) P Ef s :=
  wpAny_While (codeAny_whileLoop I (fun k s h => wpE (turn k s h) fun b s1 h1 => by
    cases b with
    | true => exact wpE h1 fun f s4 h4 => by cases f <;> exact h4
    | false => exact wpAny_execs_nil h1) k h)
theorem while_ok (RS : RS w g n R) (hr : Rm A n) (W : Wd w g c) (F : Fm w env sc ρ c) {cnd : Expr} {body : List Stmt} {pos : Pos} {m : Nat} {fl : Fl} {ρ' : Rho} {H' : Hp}
    (h : whileL R sc cnd body m ρ c.H = some (fl, ρ', H')) :
    wpAny (model pw w) A (exec (.While cnd body [] pos) env) (fun f s' => OutS w g env sc c f fl ρ' H' s') Ef c.s := by
  refine while_own (WhI w g R sc env cnd body c fl ρ' H') m ⟨h, W, Go.refl, F⟩ fun k s o => ?_
  obtain ⟨hf, Wi, Gi, Fi⟩ := o
  cases k with
  | zero => exact nn hf
  | succ k =>
    refine bE hf fun b H1 h1 hf => wpB (RS.ts A env sc cnd _ _ b H1 hr Wi Fi h1) fun p φ s1 W1 G1 => ?_
    have F1 := Fi.go G1
    cases b with
    | false =>
      cases hf
      exact ⟨W1, Gi.trans G1.toX, .next, F1⟩
    | true =>
      refine b3 hf fun fl2 ρ3 H3 hst hf => wpOut (RS.st A env sc body _ _ fl2 ρ3 H3 hr W1 F1 hst) fun f s3 o => ?_
      obtain ⟨W3, G3, Fl, F3⟩ := o
      have GG := (Gi.trans G1.toX).trans G3
      cases Fl with
      | next => exact ⟨k, Nat.lt_succ_self _, hf, W3, GG, F3⟩
      | cont => exact ⟨k, Nat.lt_succ_self _, hf, W3, GG, F3⟩
      | brk => cases hf; exact ⟨W3, GG, .next, F3⟩
      | ret V => cases hf; exact ⟨W3, GG, .ret V, F3⟩
end
end Mine

end
noncomputable section
set_option Elab.async false
set_option maxRecDepth 100000
set_option maxHeartbeats 1000000
set_option linter.unusedVariables false
/-! comprehensions -/
open PySem PySem.W PySem.Spec PySem.Calls PyProof.Rows
open PySem.SeqAt
namespace Mine
section
variable {w : World} {g : Heap} {c : Cf} {A : Around} {env : Env} {sc : Sc} {ρ : Rho} {T : Tabs} {R : Rec} {n : Nat} {mg mb : Str → Option Value} {K : Frag}
/-! ### closures -/
noncomputable def closL (env : Env) : List (Str × NameKind) → List (Str × Addr) → List (Str × Addr)
  | [], acc => acc
  | e :: r, acc => closL env r (if e.2 = .free then (e.1, (env.cells.lookup e.1).getD 0) :: acc else acc)
theorem clos_loop (l : List (Str × NameKind)) : ∀ (acc : List (Str × Addr)), (∀ x, (x, NameKind.free) ∈ l → ∃ a, env.cells.lookup x = some a) →
    (forIn l acc fun (x : Str × NameKind) (cs : List (Str × Addr)) => match x with
      | (name, kind) => if (kind == NameKind.free) = true then (do let a ← cellOf env name; pure (ForInStep.yield ((name, a) :: cs)) : Sem (ForInStep (List (Str × Addr)))) else pure (ForInStep.yield cs)) = pure (closL env l acc) := by
  induction l with
  | nil => exact fun acc h => rfl
  | cons e r ih =>
    intro acc h
    obtain ⟨x, k⟩ := e
    rw [List.forIn_cons, closL]
    have ih := fun acc => ih acc fun y m => h y (.tail _ m)
    by_cases hk : k = .free
    · subst hk
      obtain ⟨a, ha⟩ := h x (.head _)
      simp only [beq_self_eq_true, if_true, cellOf, ha, pure_bind, Option.getD_some]
      exact ih _
    · simp only [show (k == NameKind.free) = false from beq_eq_false_iff_ne.mpr hk, Bool.false_eq_true, if_false, if_neg hk, pure_bind]
      exact ih _
theorem closureFor_ok {scope : Scope} (h : ∀ x, (x, NameKind.free) ∈ scope.names → ∃ a, env.cells.lookup x = some a) : closureFor scope env = pure (closL env scope.names []) := by
  unfold closureFor
  exact (congrArg (fun t => t >>= fun cs => pure cs) (clos_loop (env := env) scope.names [] h)).trans (pure_bind _ _)
theorem closL_mem (l : List (Str × NameKind)) : ∀ {acc : List (Str × Addr)} {x : Str} {a : Addr}, (x, a) ∈ closL env l acc → ((x, NameKind.free) ∈ l ∧ a = (env.cells.lookup x).getD 0) ∨ (x, a) ∈ acc := by
  induction l with
  | nil => exact fun h => .inr h
  | cons e r ih =>
    intro acc x a h
    obtain ⟨y, k⟩ := e
    rcases ih h with ⟨h1, h2⟩ | h
    · exact .inl ⟨.tail _ h1, h2⟩
    · by_cases hk : k = .free
      · subst hk
        rw [if_pos rfl] at h
        exact (List.mem_cons.mp h).elim (fun e => by cases e; exact .inl ⟨.head _, rfl⟩) .inr
      · rw [if_neg hk] at h
        exact .inr h
theorem closL_names (l : List (Str × NameKind)) : ∀ {acc : List (Str × Addr)}, (l.map (·.1)).Nodup → (acc.map (·.1)).Nodup → (∀ x ∈ acc.map (·.1), x ∉ l.map (·.1)) → ((closL env l acc).map (·.1)).Nodup := by
  induction l with
  | nil => exact fun h1 h2 h3 => h2
  | cons e r ih =>
    intro acc h1 h2 h3
    obtain ⟨y, k⟩ := e
    obtain ⟨n1, n2⟩ := List.nodup_cons.mp h1
    by_cases hk : k = .free
    · rw [closL, if_pos hk]
      exact ih n2 (List.nodup_cons.mpr ⟨fun q => h3 _ q (.head _), h2⟩) fun x hx => (List.mem_cons.mp hx).elim (fun e => e ▸ n1) fun hx q => h3 _ hx (.tail _ q)
    · rw [closL, if_neg hk]
      exact ih n2 h2 fun x hx q => h3 _ hx (.tail _ q)
theorem closL_has (l : List (Str × NameKind)) : ∀ {acc : List (Str × Addr)} {x : Str}, ((x, NameKind.free) ∈ l ∨ x ∈ acc.map (·.1)) → x ∈ (closL env l acc).map (·.1) := by
  induction l with
  | nil => exact fun h => h.elim (fun h => absurd h List.not_mem_nil) id
  | cons e r ih =>
    intro acc x h
    obtain ⟨y, k⟩ := e
    refine ih (h.elim (fun h => (List.mem_cons.mp h).elim (fun e => by cases e; exact .inr (.head _)) .inl) fun h => .inr ?_)
    by_cases hk : k = .free
    · rw [if_pos hk]; exact .tail _ h
    · rw [if_neg hk]; exact h

/-! ### the loop -/
noncomputable def CompTests (ifs : List Expr) (env : Env) : Sem Bool := forIn ifs true fun c r => if r = true then do let ok ← isTrue c env (eval c env); pure (ForInStep.yield ok) else pure (ForInStep.yield r)
noncomputable def CompEnd (w : World) (A : Around) (elt : Expr) (acc : Value) (env : Env) (I : Nat → Shared → Prop) (k : Nat) (ok : Bool) (s : Shared) : Prop := match ok with
  | true => wpAny (model pw w) A (eval elt env) (fun x s => wpAny (model pw w) A (call (.builtin "list.append") [acc, x]) (fun _ s => ∃ m, m < k ∧ I m s) Ef s) Ef s
  | false => ∃ m, m < k ∧ I m s
noncomputable def CompTurn (w : World) (A : Around) (elt tgt : Expr) (ifs : List Expr) (it acc : Value) (env : Env) (I : Nat → Shared → Prop) (P : Shared → Prop) (k : Nat) (r : Option Value) (s : Shared) : Prop := match r with
  | none => P s
  | some v => wpAny (model pw w) A (letOwnedTupleGo tgt it v) (fun _ s => wpAny (model pw w) A (assign tgt env v) (fun _ s => wpAny (model pw w) A (CompTests ifs env) (CompEnd w A elt acc env I k) Ef s) Ef s) Ef s
theorem comp_own {Rs : Result → Shared → Prop} {s : Shared} {elt target iter : Expr} {ifs : List Expr} {scope : Scope} {pos : Pos} {it acc : Value} {env : Env} (I : Nat → Shared → Prop)
    (turn : ∀ n s, I n s → wpAny (model pw w) A (pyNext it) (CompTurn w A elt target ifs it acc env I (Rs (.ok .next)) n) Ef s) (n : Nat) (h : I n s) :
    codeAny (model pw w) A (.compLoop (.ListComp elt [⟨target, iter, ifs, 0⟩] scope pos) 0 it acc env) Rs s := by
  refine codeAny_loop rfl I (fun n s hI => ?_) n h
  show wpAny _ A ((compTurn (.ListComp elt [⟨target, iter, ifs, 0⟩] scope pos) 0 it acc env).onRaise (fun x => do noteFrame x env; theTreesLotGoes x)) _ _ s
  refine wpAny_noted ?_
  rw [compTurn_list]
  refine wpAny_bind (wpAny_standAt (wpAny_bind (wpE (turn n s hI) fun r s₁ h₁ => ?_)))
  cases r with
  | none => exact wpAny_pure h₁
  | some v =>
    refine wpAny_bind (wpE h₁ fun _ s₁' h₁' => wpAny_bind (wpE h₁' fun _ s₂ h₂ => wpAny_bind (wpE h₂ fun ok s₃ h₃ => ?_)))
    cases ok with
    | false => exact wpAny_pure ⟨rfl, h₃⟩
    | true => exact wpAny_bind (wpAny_bind (wpE h₃ fun x s₄ h₄ => wpAny_bind (wpE h₄ fun _ s₅ h₅ => wpAny_pure (wpAny_pure ⟨rfl, h₅⟩))))
theorem tests_ok (RS : RS w g n R) (hr : Rm A n) (ifs : List Expr) : ∀ {c : Cf} {b : Bool} {H' : Hp}, Wd w g c → Fm w env sc ρ c → testsL R sc ρ ifs c.H = some (b, H') → wpAny (model pw w) A (CompTests ifs env) (fun b' s' => OutB w g c b H' s' b') Ef c.s := by
  induction ifs with
  | nil => intro c b H' W F h; cases h; exact wpAny_pure (OutB.id W)
  | cons e r ih =>
    intro c b H' W F h
    refine bE h fun b1 H1 h1 h => ?_
    unfold CompTests
    rw [List.forIn_cons, if_pos rfl]
    refine wpAny_bind (wpAny_bind (wpB (RS.ts A env sc e ρ c b1 H1 hr W F h1) fun p φ s1 W1 G1 => wpAny_pure ?_))
    cases b1 with
    | true => exact wpAB G1 (ih W1 (F.go G1) h)
    | false =>
      cases h
      have stay : ∀ l : List Expr, wpAny (model pw w) A (forIn l false fun c r => if r = true then do let ok ← isTrue c env (eval c env); pure (ForInStep.yield ok) else pure (ForInStep.yield r)) (fun b' s' => OutB w g c false H1 s' b') Ef s1 := by
        intro l
        induction l with
        | nil => exact wpAny_pure ⟨W1, G1⟩
        | cons e r ih =>
          rw [List.forIn_cons, if_neg Bool.false_ne_true]
          exact wpAny_bind (wpAny_pure ih)
      exact stay r

/-! ### the names -/
theorem putV_free {y : Str} {d : D} {ρ' : Rho} {x : Str} (h : putV sc ρ y d = some ρ') (hx : sc.lookup x = some .free) : ρ'.lookup x = ρ.lookup x :=
  b1 h fun k hk h => by
    have ne : x ≠ y := fun e => by rw [← e, hx] at hk; cases hk; exact nn h
    have e : ρ' = (y, d) :: ρ.filter fun e => e.1 != y := by cases k <;> first | exact nn h | (cases h; rfl)
    rw [e, List.lookup_cons, beq_eq_false_iff_ne.mpr ne]
    exact filter_lookup ne ρ
noncomputable def BindFree (sc : Sc) (m : Nat) (x : Str) : Prop := ∀ {e : Expr} {d : D} {ρ ρ' : Rho}, bindT sc m e d ρ = some ρ' → ρ'.lookup x = ρ.lookup x
theorem bindAll_free {m : Nat} {x : Str} (ih : BindFree sc m x) (es : List Expr) : ∀ {ds : List D} {ρ ρ' : Rho}, bindAll sc m es ds ρ = some ρ' → ρ'.lookup x = ρ.lookup x := by
  induction es with
  | nil => intro ds ρ ρ' h; cases h; rfl
  | cons e r ihr =>
    intro ds ρ ρ' h
    cases ds with
    | nil => cases h; rfl
    | cons d ds =>
      unfold bindAll at h
      rw [List.zip_cons_cons, List.foldlM_cons] at h
      exact b1 h fun ρ1 q1 q2 => (ihr (ds := ds) q2).trans (ih q1)
theorem bindT_free {m : Nat} {x : Str} (hx : sc.lookup x = some .free) : BindFree sc m x := by
  induction m with
  | zero => exact fun h => b1 h fun y _ h => putV_free h hx
  | succ m ih =>
    intro e d ρ ρ' h
    unfold bindT at h
    cases q : nameE e with
    | some y => rw [q] at h; exact putV_free h hx
    | none =>
      rw [q] at h
      exact b1 h fun es _ h => b1 h fun ds _ h => i1 h fun _ h5 => bindAll_free ih es h5
theorem relabel_lookup {scope : Scope} (x : Str) : (relabel scope env).names.lookup x = (scope.names.lookup x).map fun k => if (k == .free && env.scope.kind == .function && env.kindOf x == some .cell) = true then .cell else k := by
  unfold relabel
  dsimp only
  induction scope.names with
  | nil => rfl
  | cons e r ih =>
    obtain ⟨y, k⟩ := e
    rw [List.map_cons, List.lookup_cons]
    dsimp only
    rw [show (if (k == NameKind.free && env.scope.kind == .function && env.kindOf y == some .cell) = true then (y, NameKind.cell) else (y, k)) = (y, if (k == NameKind.free && env.scope.kind == .function && env.kindOf y == some .cell) = true then NameKind.cell else k) by split <;> rfl, List.lookup_cons]
    cases hb : x == y with
    | true => rw [eq_of_beq hb]; rfl
    | false => exact ih
/-- a scope of a comprehension, in its def's scope -/
structure ScO (sc : Sc) (scope : Scope) : Prop where
  kd : scope.kind = .function
  nd : (scope.names.map (·.1)).Nodup
  fr : ∀ x, (x, NameKind.free) ∈ scope.names → sc.lookup x = some .cell
  nc : ∀ x, (x, NameKind.cell) ∉ scope.names
theorem scope_ok {scope : Scope} (h : scopeOk sc scope = true) : ScO sc scope := by
  obtain ⟨h, h3⟩ := Bool.and_eq_true_iff.mp h
  obtain ⟨h1, h2⟩ := Bool.and_eq_true_iff.mp h
  have z := List.all_eq_true.mp h3
  exact ⟨eq_of_beq h1, of_decide_eq_true h2, fun x m => eq_of_beq (show (sc.lookup x == some .cell) = true from z _ m), fun x m => Bool.false_ne_true (z _ m)⟩
theorem ScO.cell {scope : Scope} (h : ScO sc scope) (F : Fm w env sc ρ c) (x : Str) (m : (x, NameKind.free) ∈ scope.names) : ∃ a, env.cells.lookup x = some a := (F.cel x (h.fr x m)).2
theorem ScO.clos {scope : Scope} (h : ScO sc scope) (F : Fm w env sc ρ c) : closureFor scope env = pure (closL env scope.names []) := closureFor_ok (h.cell F)
theorem ScO.mem {scope : Scope} (h : ScO sc scope) (F : Fm w env sc ρ c) {x : Str} {a : Addr} (m : (x, a) ∈ closL env scope.names []) : (x, NameKind.free) ∈ scope.names ∧ env.cells.lookup x = some a := by
  rcases closL_mem _ m with ⟨q1, q2⟩ | q
  · obtain ⟨b, hb⟩ := h.cell F x q1
    rw [hb] at q2
    exact ⟨q1, by rw [hb, q2]; rfl⟩
  · exact absurd q List.not_mem_nil
theorem filter_keep {P : Str → Bool} {x : Str} (h : P x = true) (ρ : Rho) : (ρ.filter fun e => P e.1).lookup x = ρ.lookup x := by
  induction ρ with
  | nil => rfl
  | cons e r ih =>
    obtain ⟨y, d⟩ := e
    rw [List.filter_cons, List.lookup_cons]
    cases q : P y with
    | true => rw [if_pos rfl, List.lookup_cons, ih]
    | false => rw [if_neg Bool.false_ne_true, show (x == y) = false from beq_eq_false_iff_ne.mpr fun e => (by rw [← e, h] at q; cases q)]; exact ih
/-- the names that a comprehension finds -/
noncomputable abbrev rhoC (scope : Scope) (ρ : Rho) : Rho := ρ.filter fun e => scope.names.lookup e.1 == some .free
theorem rhoC_free {scope : Scope} {x : Str} {d : D} (h : (rhoC scope ρ).lookup x = some d) : scope.names.lookup x = some .free ∧ ρ.lookup x = some d := by
  have q : (scope.names.lookup x == some .free) = true := (List.mem_filter.mp (lookup_mem h)).2
  exact ⟨eq_of_beq q, (filter_keep (P := fun x => scope.names.lookup x == some .free) q ρ).symm.trans h⟩
/-- the comprehension's frame -/
theorem comp_fm (F : Fm w env sc ρ c) {scope : Scope} (hs : ScO sc scope) {C : Addr} {m0 : Str → Option Value} {s1 : Shared} (hk : ∀ a o, c.s.heap.get? a = some o → s1.heap.get? a = some o) (hC : ¬ Al c.s C) (W : Wd w g c) (hn : s1.heap.Ns C m0) :
    Fm w (compEnvC scope (closL env scope.names []) C env) scope.names (rhoC scope ρ) ⟨c.p, c.φ, c.H, s1⟩ := by
  have cln : ((closL env scope.names []).map (·.1)).Nodup := closL_names _ hs.nd List.nodup_nil fun _ h => absurd h List.not_mem_nil
  refine ⟨hs.kd, F.glb, F.blt, fun x q => (relabel_lookup x).trans (by rw [q]; rfl), fun x q => absurd (lookup_mem q) (hs.nc x), fun x q => .inr ((relabel_lookup x).trans ?_), fun x q => (relabel_lookup x).trans (by rw [q]; rfl), ⟨m0, hn, fun x d q k => ?_⟩, fun x d q k => ?_, fun x a m => ?_, ?_, fun a m => ?_⟩
  · rw [q, Option.map_some, F.kind, (F.cel x (hs.fr x (lookup_mem q))).1]; rfl
  · rw [(rhoC_free q).1] at k; cases k
  · obtain ⟨q1, q2⟩ := rhoC_free q
    obtain ⟨a, v, z1, ⟨o, z2, z3⟩, z4⟩ := F.cl x d q2 (.inl (hs.fr x (lookup_mem q1)))
    obtain ⟨⟨y, b⟩, m, e⟩ := List.mem_map.mp (closL_has (env := env) _ (acc := []) (.inl (lookup_mem q1)))
    obtain rfl : y = x := e
    obtain rfl : a = b := Option.some.inj (z1.symm.trans (hs.mem F m).2)
    exact ⟨a, v, lookup_of_mem cln m, ⟨o, hk _ _ z2, z3⟩, z4⟩
  · obtain ⟨⟨ov, o, z2, z3⟩, ne⟩ := F.ce x a (lookup_mem (hs.mem F m).2)
    exact ⟨⟨ov, o, hk _ _ z2, z3⟩, fun e => hC ⟨o, (show a = C from e) ▸ z2⟩⟩
  · have go : ∀ (l : List (Str × Addr)), (l.map (·.1)).Nodup → (∀ x a, (x, a) ∈ l → env.cells.lookup x = some a) → l.Pairwise fun x y => x.2 ≠ y.2 := by
      intro l
      induction l with
      | nil => exact fun _ _ => .nil
      | cons e r ih =>
        intro nd hl
        obtain ⟨n1, n2⟩ := List.nodup_cons.mp nd
        exact .cons (fun y hy q => n1 (List.mem_map.mpr ⟨y, hy, name_of_addr F.ap (lookup_mem (q ▸ hl y.1 y.2 (.tail _ hy))) (lookup_mem (hl e.1 e.2 (.head _)))⟩)) (ih n2 fun x a m => hl x a (.tail _ m))
    exact go _ cln fun x a m => (hs.mem F m).2
  · rcases List.mem_cons.mp m with rfl | m
    · exact ⟨fun l => hC (W.lvlt l), fun o p => hC ⟨_, W.sub _ _ p⟩⟩
    · obtain ⟨⟨x, b⟩, m2, rfl⟩ := List.mem_map.mp m
      exact F.nl _ (cells_frm (lookup_mem (hs.mem F m2).2))
end
end Mine

end
noncomputable section
set_option Elab.async false
set_option maxRecDepth 100000
set_option maxHeartbeats 1000000
set_option linter.unusedVariables false
/-! comprehensions: the run -/
open PySem PySem.W PySem.Spec PySem.Calls PyProof.Rows
open PySem.SeqAt
namespace Mine
section
variable {w : World} {g : Heap} {c : Cf} {A : Around} {env : Env} {sc : Sc} {ρ : Rho} {T : Tabs} {R : Rec} {n : Nat} {mg mb : Str → Option Value} {K : Frag}
theorem Hold.tail {c₀ c : Cf} {Y fp wr : List Addr} {D : Addr} (H : Hold c₀ c Y (D :: fp) (D :: wr)) : Hold c₀ c Y fp wr := ⟨fun b m => H.w1 b (.tail _ m), fun b m => H.f1 b (.tail _ m)⟩
theorem Go.add {c₀ : Cf} {Y : List Addr} {p : Pm} {φ : Phi} {H : Hp} {s : Shared} {D : Addr} {o : Obj} (G : Go Y c₀ ⟨p, φ, H, s⟩) (n : ¬ Al c₀.s D) : Go Y c₀ ⟨addP p D o, φ, H, s⟩ :=
  ⟨fun a x q => addP_l a x (G.ps a x q), fun a x q => (show p a x ∨ (a = D ∧ x = o) from q).elim (G.pn a x) fun e => .inr (.inl (e.1 ▸ n)), G.fs, G.kp, G.lv, G.sz, G.st, G.ph⟩
/-- what a comprehension's list leans on -/
structure CoC (c₀ : Cf) (E : Env) (scn : Sc) (ρ0 : Rho) (fp wr : List Addr) (C D : Addr) : Prop where
  nD : ¬ Al c₀.s D
  nC : ¬ Al c₀.s C
  dc : D ≠ C
  dfp : D ∉ fp
  wrf : ∀ a ∈ frm E, a ∉ wr ∧ a ≠ D
  tx : TX E scn [C]
  loc : E.locals = C
  fr : ∀ x d, ρ0.lookup x = some d → scn.lookup x = some .free
  sub : ∀ b ∈ wr, b ∈ fp
theorem CoC.sub' {c₀ : Cf} {E : Env} {scn : Sc} {ρ0 : Rho} {fp wr : List Addr} {C D : Addr} (X : CoC c₀ E scn ρ0 fp wr C D) : ∀ b ∈ D :: wr, b ∈ D :: fp := fun b m => (List.mem_cons.mp m).elim (fun e => e ▸ .head _) fun m => .tail _ (X.sub b m)
inductive CoOut (w : World) (g : Heap) (c : Cf) (C D : Addr) (fs : List F) (H' : Hp) (s' : Shared) : Prop
  | mk {p : Pm} {φ : Phi} {m : Str → Option Value} : Wd w g ⟨p, φ, H', s'⟩ → Go [] c ⟨p, φ, H', s'⟩ → VD w p φ (.ref D) (.f (.lst fs)) → s'.heap.Ns C m → ¬ Lv φ H' C → (∀ o, ¬ p C o) → ¬ inφ φ C → CoOut w g c C D fs H' s'
noncomputable abbrev lstO (vs : List Value) (m : Nat) : Obj := { cls := .type "list", data := .seq vs.toArray m }
inductive CoI (w : World) (g : Heap) (R : Rec) (scn : Sc) (E : Env) (elt tgt : Expr) (ifs : List Expr) (ρ0 : Rho) (c₀ : Cf) (fp wr : List Addr) (St : Nat → Heap → Prop) (C D : Addr) (ds : List Mine.D) (fs : List F) (H' : Hp) (k : Nat) (s : Shared) : Prop
  | mk {i m : Nat} {facc rest : List F} {vs : List Value} {p : Pm} {φ : Phi} {H : Hp} : k = ds.length - i → i ≤ ds.length → compL R scn elt tgt ifs ρ0 (ds.drop i) H = some (rest, H') → fs = facc ++ rest → Wd w g ⟨p, φ, H, s⟩ → Go [C] c₀ ⟨p, φ, H, s⟩ → Fm w E scn ρ0 ⟨p, φ, H, s⟩ →
      St i s.heap → Hold c₀ ⟨p, φ, H, s⟩ [C] (D :: fp) (D :: wr) → s.heap.get? D = some (lstO vs m) → VFs w p vs facc → facc.length ≤ i → ¬ inφ φ C → CoI w g R scn E elt tgt ifs ρ0 c₀ fp wr St C D ds fs H' k s
theorem alD {fp : List Addr} {D : Addr} {s : Shared} (h1 : Al s D) (h2 : ∀ b ∈ fp, Al s b) : ∀ b ∈ D :: fp, Al s b := fun b m => (List.mem_cons.mp m).elim (fun e => e ▸ h1) (h2 b)
theorem phi_go {Y : List Addr} {p p' : Pm} {φ φ' : Phi} {H H' : Hp} {s s' : Shared} {C : Addr} (G : Go Y ⟨p, φ, H, s⟩ ⟨p', φ', H', s'⟩) (h : ¬ inφ φ C) (a : Al s C) : ¬ inφ φ' C := fun q => (G.ph C q).elim h fun z => z a
theorem comp_turn (RS : RS w g n R) (hr : Rm A n) {elt tgt : Expr} {ifs : List Expr} {scn : Sc} {E : Env} {ρ0 : Rho} {c₀ : Cf} {I C D : Addr} {fp wr : List Addr} {St : Nat → Heap → Prop} {ds : List Mine.D} {fs : List F} {H' : Hp} {P : Shared → Prop} (S : Src w g A tgt c₀ I fp wr ds St) (X : CoC c₀ E scn ρ0 fp wr C D) (G0 : Go [] c c₀) (hl : ds.length ≤ lim)
    (fin : ∀ s', CoOut w g c C D fs H' s' → P s') (k : Nat) (s : Shared) (h : CoI w g R scn E elt tgt ifs ρ0 c₀ fp wr St C D ds fs H' k s) :
    wpAny (model pw w) A (pyNext (.ref I)) (CompTurn w A elt tgt ifs (.ref I) (.ref D) E (CoI w g R scn E elt tgt ifs ρ0 c₀ fp wr St C D ds fs H') P k) Ef s := by
  obtain @⟨i, m, facc, rest, vs, p, φ, H, ek, hi, hf, hfs, Wi, Gi, Fi, sti, Hi, hD, VA, hlen, nφ⟩ := h
  have aD : Al s D := ⟨_, hD⟩
  have dwr : D ∉ wr := fun q => X.dfp (X.sub _ q)
  have aC : Al s C := Fi.lt (X.loc ▸ .head _)
  have CE : C ∈ frm E := X.loc ▸ .head _
  rcases drop_cases ds i hi with ⟨e, hd⟩ | ⟨d, hd, hdr⟩
  · rw [hd] at hf
    cases hf
    rw [List.append_nil] at hfs
    subst hfs
    subst e
    refine wpOut (S.done _ [C] P Wi Gi sti Hi.tail fun p' s' N => ?_) fun r s' z => ?_
    · have F' := N.fm Fi fun a m => (X.wrf a m).1
      have H2 := N.hold' Hi (alD aD fun b m => S.al _ _ sti b (X.sub b m))
      have nl := F'.nl C CE
      obtain ⟨m', hm', _⟩ := F'.ns
      exact fin s' ⟨N.wd.hold (N.kp D _ dwr hD) (H2.f1 D (.head _)).1, G0.trans ((N.go.fresh fun a m => List.mem_singleton.mp m ▸ X.nC).add X.nD), .f (.lst addP_r ⟨_, rfl⟩ (VA.mono fun a o q => addP_l a o (N.p a o q))), X.loc ▸ hm', nl.1, fun o q => (show p' C o ∨ (C = D ∧ o = _) from q).elim (nl.2 o) fun e => X.dc e.1.symm, nφ⟩
    · obtain ⟨rfl, o⟩ := z
      exact o
  · rw [hdr] at hf
    refine b1 hf fun ρ2 hb hf => bE hf fun ok H3 hts hf => ?_
    have lt : i < ds.length := (List.getElem?_eq_some_iff.mp hd).1
    have lk : ds.length - (i + 1) < k := ek ▸ Nat.sub_succ_lt_self _ _ lt
    have back : ∀ x d, ρ0.lookup x = some d → ρ2.lookup x = some d := fun x d q => (bindT_free (X.fr x d q) hb).trans q
    refine wpOut (S.item i d _ [C] (fun v s => wpAny (model pw w) A (assign tgt E v) (fun _ s => wpAny (model pw w) A (CompTests ifs E) (CompEnd w A elt (.ref D) E (CoI w g R scn E elt tgt ifs ρ0 c₀ fp wr St C D ds fs H') k) Ef s) Ef s) hd Wi Gi sti Hi.tail fun v p1 s1 N V1 st1 => ?_) fun r s' z => ?_
    · have F1 := N.fm Fi fun a m => (X.wrf a m).1
      have Hd1 := N.hold' Hi (alD aD fun b m => S.al _ _ sti b (X.sub b m))
      have hD1 := N.kp D _ dwr hD
      refine wpT (bindT_ok hr.2.2 4 tgt N.wd N.go F1 X.tx V1 hb) fun _ p2 φ2 s2 W2 G2 G2' F2 => ?_
      have st2 := S.go Hd1.tail G2' st1
      have hD2 := G2'.kp D _ hD1 (Hd1.f1 D (.head _)).1 (Hd1.f1 D (.head _)).2
      have Hd2 := Hd1.go G2' (alD ⟨_, hD1⟩ (S.al _ _ st1)) X.sub'
      have nφ2 := phi_go G2' nφ (F1.lt CE)
      refine wpB (tests_ok RS hr ifs W2 F2 hts) fun p3 φ3 s3 W3 G3 => ?_
      have F3 := F2.go G3
      have st3 := S.go Hd2.tail G3.toX st2
      have hD3 := G3.kp D _ hD2 (Hd2.f1 D (.head _)).1 List.not_mem_nil
      have Hd3 := Hd2.go G3.toX (alD ⟨_, hD2⟩ (S.al _ _ st2)) X.sub'
      have nφ3 := phi_go G3 nφ2 (F2.lt CE)
      have GG3 : Go [C] c₀ _ := G2.trans G3.toX
      have VA3 := VA.mono fun a o q => G3.ps a o (G2'.ps a o (N.p a o q))
      cases ok with
      | false => exact ⟨_, lk, rfl, lt, hf, hfs, W3, GG3, F3.rho back, st3, Hd3, hD3, VA3, Nat.le_succ_of_le hlen, nφ3⟩
      | true =>
        refine bE hf fun dx H4 hx hf => bE hf fun fx H5 hz hf => m1 (P := fun y => (rest, H') = y → CompEnd w A elt (.ref D) E (CoI w g R scn E elt tgt ifs ρ0 c₀ fp wr St C D ds fs H') k true s3) hf (fun z hc e => ?_) rfl
        refine wpK (RS.ex A _ scn elt ρ2 _ dx H4 hr W3 F3 hx) fun x p4 φ4 s4 W4 G4 V4 => ?_
        obtain ⟨W5, G5, V5⟩ := fz_ok _ _ dx fx H5 x W4 V4 hz
        have G35 := G4.trans G5
        have F5 := F3.go G35
        have st5 := S.go Hd3.tail G35.toX st3
        have hD5 := G35.kp D _ hD3 (Hd3.f1 D (.head _)).1 List.not_mem_nil
        have Hd5 := Hd3.go G35.toX (alD ⟨_, hD3⟩ (S.al _ _ st3)) X.sub'
        have nφ5 := phi_go G35 nφ3 (F3.lt CE)
        have vlen := VA.length
        refine append_at (hsz := by rw [List.size_toArray, sizeLine_eq, vlen]; exact Nat.le_trans hlen (Nat.le_trans (Nat.le_trans hi hl) (by decide))) hD5 fun h' hsb ho => ?_
        obtain ⟨W6, G6⟩ := W5.side1 (tk := s4.toks) (GG3.trans G35.toX) (Hd5.f1 D (.head _)).1 (Hd5.w1 D (.head _)).2.1 hsb (.inl ⟨_, ho⟩) (.inr X.nD)
        have N6 : Next w g c₀ _ [C] [D] _ _ := ⟨fun _ _ h => h, fun _ _ h => .inl h, W6, G6, fun a o m e => (hsb.2 a fun q => m (q ▸ .head _)).trans e⟩
        have e1 : rest = fx :: z.1 := congrArg Prod.fst e
        have e2 : H' = z.2 := congrArg Prod.snd e
        exact ⟨_, lk, rfl, lt, hc.trans (by rw [e2]), by rw [hfs, e1]; exact (List.append_assoc facc [fx] z.1).symm, W6, G6, (N6.fm F5 fun a m q => (X.wrf a m).2 (List.mem_singleton.mp q)).rho back, S.frame _ _ _ st5 fun b m o e => (hsb.2 b fun q => X.dfp (q ▸ m)).trans e,
          N6.hold' Hd5 fun b m => alD ⟨_, hD5⟩ (S.al _ _ st5) b (X.sub' b m), by rw [ho, List.push_toArray], VFs.append (.cons V5 .nil) (VA3.mono G35.ps), by rw [List.length_append]; exact Nat.succ_le_succ hlen, nφ5⟩
    · obtain ⟨v, rfl, z⟩ := z
      exact z
theorem comp_go (RS : RS w g n R) (hr : Rm A n) {tgt it elt : Expr} {ifs : List Expr} {scope : Scope} {pos : Pos} {ds : List D} {H1 H' : Hp} {fs : List F} {p : Pm} {φ : Phi} {s0 : Shared} {hp2 h₁ : Heap} {t : Tok} {I C D : Addr} {fp wr : List Addr} {St : Nat → Heap → Prop} {m0 : Str → Option Value} {Rs : Result → Shared → Prop}
    (hs : ScO sc scope) (hl : ds.length ≤ lim) (h2 : compL R scope.names elt tgt ifs (rhoC scope ρ) ds H1 = some (fs, H')) (W0 : Wd w g ⟨p, φ, H1, s0⟩) (G0 : Go [] c ⟨p, φ, H1, s0⟩) (F0 : Fm w env sc ρ ⟨p, φ, H1, s0⟩) (S : Src w g A tgt ⟨p, φ, H1, s0⟩ I fp wr ds St) (st0 : St 0 hp2)
    (n1 : ∀ b ∈ wr, ¬ Al s0 b) (n2 : ∀ b ∈ fp, ¬ Al s0 b ∨ ∃ o, p b o) (keep : ∀ a o, s0.heap.get? a = some o → hp2.get? a = some o) (eC : C = hp2.objs.size + 1) (eD : D = hp2.objs.size) (up : ∀ b o, hp2.get? b = some o → h₁.get? b = some o) (hD : h₁.get? D = some (lstO [] 0)) (hn : h₁.Ns C m0)
    (fin : ∀ s', CoOut w g c C D fs H' s' → Rs (.ok .next) s') :
    codeAny (model pw w) A (.compStart (.ListComp elt [⟨tgt, it, ifs, 0⟩] scope pos) 0 (.ref I) (.ref D) (compEnvC scope (closL env scope.names []) C env)) Rs { s0 with heap := h₁, toks := t } := by
  have al2 : ∀ b o, hp2.get? b = some o → b ≠ C ∧ b ≠ D := fun b o e => have lt := Heap.lt_size e; ⟨fun q => Nat.lt_irrefl _ (Nat.lt_of_lt_of_le (q ▸ lt) (eC ▸ Nat.le_succ _)), fun q => Nat.lt_irrefl _ (eD ▸ q ▸ lt)⟩
  have keep2 : ∀ a o, s0.heap.get? a = some o → h₁.get? a = some o := fun a o e => up a o (keep a o e)
  have nD : ¬ Al s0 D := fun ⟨o, e⟩ => (al2 D o (keep D o e)).2 rfl
  have nC : ¬ Al s0 C := fun ⟨o, e⟩ => (al2 C o (keep C o e)).1 rfl
  have fpC : ∀ b ∈ fp, b ≠ C ∧ b ≠ D := fun b m => let ⟨o, e⟩ := S.al 0 _ st0 b m; al2 b o e
  obtain ⟨W1, G1⟩ := W0.grow (s' := { s0 with heap := h₁, toks := t }) keep2 rfl
  have X : CoC ⟨p, φ, H1, s0⟩ (compEnvC scope (closL env scope.names []) C env) scope.names (rhoC scope ρ) fp wr C D := ⟨nD, nC, fun q => absurd (eC.symm.trans (q.symm.trans eD)) (Nat.succ_ne_self _), fun m => (fpC D m).2 rfl, fun a m => by
      rcases List.mem_cons.mp m with rfl | m
      · exact ⟨fun q => (fpC _ (S.sub _ q)).1 rfl, fun q => absurd (eC.symm.trans (q.trans eD)) (Nat.succ_ne_self _)⟩
      · obtain ⟨⟨x, b⟩, m2, rfl⟩ := List.mem_map.mp m
        have alb := F0.lt (cells_frm (lookup_mem (hs.mem F0 m2).2))
        exact ⟨fun q => n1 _ q alb, fun q => nD (q ▸ alb)⟩, ⟨.head _, fun x a q => absurd (lookup_mem q) (hs.nc x)⟩, rfl, fun x d q => (rhoC_free q).1, S.sub⟩
  have st1 : St 0 h₁ := S.frame 0 _ _ st0 fun b m o e => up b o e
  have loop : codeAny (model pw w) A (.compLoop (.ListComp elt [⟨tgt, it, ifs, 0⟩] scope pos) 0 (.ref I) (.ref D) (compEnvC scope (closL env scope.names []) C env)) Rs { s0 with heap := h₁, toks := t } :=
    comp_own (CoI w g R scope.names _ elt tgt ifs _ _ fp wr St C D ds fs H') (comp_turn RS hr S X G0 hl fin) ds.length
      ⟨rfl, Nat.zero_le _, h2, rfl, W1, G1.toX, comp_fm F0 hs keep2 nC W0 hn, st1, SrcAt.hold W0 (fun b m => (List.mem_cons.mp m).elim (fun e => e ▸ nD) (n1 b)) (fun b m => (List.mem_cons.mp m).elim (fun e => .inl (e ▸ nD)) (n2 b)) (fun b m q => (List.mem_cons.mp q).elim (fun e => X.dc (e.symm.trans (List.mem_singleton.mp m))) fun q => (fpC b q).1 (List.mem_singleton.mp m)),
        hD, .nil, Nat.le_refl _, fun ⟨k, x, h, q⟩ => nC (W0.lt k x C h q)⟩
  exact codeAny_compStart_list loop (S.self 0 _ _ _ st1 loop)
theorem comp_run (RS : RS w g n R) (hr : Rm A n) (W : Wd w g c) (F : Fm w env sc ρ c) {tgt it elt : Expr} {ifs : List Expr} {scope : Scope} {pos pos' : Pos} {ds : List D} {H1 H' : Hp} {fs : List Mine.F}
    {use : Option (Value → Sem Unit)} {Q : Value → Shared → Prop} (hs : ScO sc scope) (hset : isSet it = false) (h1 : ItersOk w g A tgt c env it ds H1) (hl : ds.length ≤ lim)
    (h2 : compL R scope.names elt tgt ifs (rhoC scope ρ) ds H1 = some (fs, H')) (fin : ∀ C D s', ¬ Al c.s C → CoOut w g c C D fs H' s' → compPost (model pw w) A Ef use Q (.ref D) C (.ok .next) s') :
    wpAny (model pw w) A (comprehension (.ListComp elt [⟨tgt, it, ifs, 0⟩] scope pos) scope env pos' (newList []) false (eval it env) use) Q Ef c.s := by
  refine wpAny_comprehension_free (cl := closL env scope.names []) (g := ⟨tgt, it, ifs, 0⟩) (gs := []) rfl (fun x => by cases it <;> first | rfl | cases hset) (hs.clos F) hs.kd (fun y m q => lookup_of_mem hs.nd (q ▸ m)) (wpOut h1 fun xv s1 o => wpOut o fun itv s2 o => ?_)
  obtain @⟨p, φ, s0, W0, G0, o⟩ := o
  obtain ⟨I, fp, wr, St, S, st0, n1, n2, keep, he⟩ := o
  obtain ⟨hp2, t2, rfl⟩ : ∃ h t, s2 = { s0 with heap := h, toks := t } := ⟨_, _, he⟩
  refine wpAny_newObj_type (wpAny_newFunctionEnv (fun y m q => hs.nc y.1 (q ▸ m)) (fun y hy => absurd hy List.not_mem_nil) (fun h₁ hn hsb => ?_) hs.kd)
  have sz : (hp2.push (lstO [] 0)).objs.size = hp2.objs.size + 1 := Heap.size_push ..
  have push2 : ∀ b o, b ≠ (hp2.push (lstO [] 0)).objs.size → (hp2.push (lstO [] 0)).get? b = some o → h₁.get? b = some o := fun b o n e => hsb.extBut b o n (Heap.get?_push_of_some _ e)
  refine comp_go (s0 := s0) (hp2 := hp2) (h₁ := h₁) (t := t2) RS hr hs hl h2 W0 G0 (F.go G0) S st0 n1 n2 keep sz rfl (fun b o e => push2 b o (fun q => Nat.lt_irrefl _ (Nat.lt_of_lt_of_le (q ▸ Heap.lt_size e) (sz ▸ Nat.le_succ _))) (Heap.get?_push_of_some _ e)) (push2 _ _ (fun q => absurd (sz.symm.trans q.symm) (Nat.succ_ne_self _)) (Heap.get?_push_size _ rfl)) hn fun s' o => fin _ _ s' (fun q => ?_) o
  obtain ⟨o, e⟩ := G0.sz _ q
  exact Nat.lt_irrefl _ (Nat.lt_of_lt_of_le (Heap.lt_size (keep _ o e)) (sz ▸ Nat.le_succ _))
end
end Mine

end
noncomputable section
set_option Elab.async false
set_option maxRecDepth 100000
set_option maxHeartbeats 1000000
set_option linter.unusedVariables false
/-! sums, dicts, comprehensions stored -/
open PySem PySem.W PySem.Spec PySem.Calls PyProof.Rows
open PySem.SeqAt
namespace Mine
section
variable {w : World} {g : Heap} {c : Cf} {A : Around} {env : Env} {sc : Sc} {ρ : Rho} {T : Tabs} {R : Rec} {n : Nat} {mg mb : Str → Option Value} {K : Frag}
theorem binA_ok (RS : RS w g n R) (hr : Rm A n) (W : Wd w g c) (F : Fm w env sc ρ c) {l r : Expr} {op : Operator} {pos : Pos} {d : D} {H' : Hp} (h : binA R sc l op r ρ c.H = some (d, H')) :
    wpAny (model pw w) A (eval (.BinOp l op r pos) env) (fun v s' => Out w g c v d H' s') Ef c.s :=
  bE h fun a H1 h1 h => bE h fun b H2 h2 h => wpAny_BinOp (wpK (exV_ok RS hr c l a H1 W F h1) fun va p1 φ1 s1 W1 G1 V1 => wpK (exV_ok RS hr _ r b H2 W1 (F.go G1) h2) fun vb p2 φ2 s2 W2 G2 V2 => wpA (G1.trans G2) (by
    dsimp only at h
    cases q : binV op a b with
    | some d' => rw [q] at h; cases h; exact binV_ok W2 (V1.mono G2.ps G2.fs) V2 q
    | none =>
      rw [q] at h
      exact mP (P := fun d H' => wpAny (model pw w) A (binaryOp op va vb) (fun v s' => Out w g ⟨p2, φ2, H2, s2⟩ v d H' s') Ef s2) h fun fs hf => binL_ok W2 (V1.mono G2.ps G2.fs) V2 hf fun vs V => Out.pushOwn W2 (k := s2.toks) V.toD))
noncomputable def isLC (e : Expr) : Bool := e.ctorIdx == 8
theorem oneGen_eq {l : List Comprehension} {x : Expr × Expr × List Expr} (h : oneGen l = some x) : l = [⟨x.1, x.2.1, x.2.2, 0⟩] := by
  unfold oneGen at h
  split at h
  · cases h; rfl
  · exact nn h

/-! ### a store into a dict -/
theorem storedH_tup (xs : List (List Int × Addr × Value)) (k : List Int) (a : Addr) (v : Value) : (storedH xs k a v).map kT = setV (xs.map kT) (.t k) v := by
  have e : ∀ b : List Int, ((Key.t b) == (Key.t k)) = decide (b = k) := fun b => beq_key (f := Key.t) (fun _ _ e => by injection e) b k
  unfold storedH setV
  rw [any_lookup, lookup_tup, Option.isSome_map]
  split
  · rw [List.map_map, List.map_map]
    refine List.map_congr_left fun x _ => ?_
    show kT (putAt k v x) = if (kT x).1 == Key.t k then _ else _
    rw [show ((kT x).1 == Key.t k) = _ from e x.1]
    unfold putAt
    by_cases h : x.1 = k
    · rw [if_pos h, if_pos (decide_eq_true h)]
    · rw [if_neg h, if_neg (by rw [decide_eq_false h]; exact Bool.false_ne_true)]
  · rw [List.map_append]; rfl
theorem storedH_mem {xs : List (List Int × Addr × Value)} {k : List Int} {a : Addr} {v : Value} (x : List Int × Addr × Value) (hx : x ∈ storedH xs k a v) : (∃ y ∈ xs, y.1 = x.1 ∧ y.2.1 = x.2.1) ∨ (x.1 = k ∧ x.2.1 = a) := by
  unfold storedH at hx
  split at hx
  · obtain ⟨y, hy, rfl⟩ := List.mem_map.mp hx
    refine .inl ⟨y, hy, ?_⟩
    unfold putAt
    split <;> exact ⟨rfl, rfl⟩
  · rcases List.mem_append.mp hx with hx | hx
    · exact .inl ⟨x, hx, rfl, rfl⟩
    · obtain rfl := List.mem_singleton.mp hx; exact .inr ⟨rfl, rfl⟩
theorem setItem_ok (hu : A.units + 1 < cLine) (W : Wd w g c) {vo vk v : Value} {k : Nat} {dk d : D} {H' : Hp} (Vo : VD w c.p c.φ vo (.own k)) (Vk : VD w c.p c.φ vk dk) (V : VD w c.p c.φ v d) (h : setItemD k dk d c.H = some H') :
    wpAny (model pw w) A (setItem vo vk v) (fun _ s' => OutU w g c H' s') Ef c.s := by
  refine b1 h fun es he h => b1 h fun key hk h => i1 h fun q h => b1 he fun O hO he => i0 he fun hf he => ?_
  cases h
  simp only [Bool.and_eq_true, decide_eq_true_eq] at q
  obtain ⟨x, rfl, hφ, t⟩ := own_tr W Vo hO
  obtain ⟨a, dx⟩ := x
  have t := t.inv
  cases O with
  | frz v => exact absurd rfl hf
  | dct es' =>
    cases he
    obtain ⟨o, kvs, e2, hg, hs, hd, Vd⟩ := t
    cases e2
    have Dk := dk_of hd ((vkds_all Vd (sameKind key)).trans q.1)
    have sz : ∀ {m : Nat}, m = kvs.length → m ≤ sizeLine := fun e => by rw [e, vkds_len Vd]; exact Nat.le_trans q.2 (by rw [sizeLine_eq]; decide)
    have K := asKey_ok Vk hk
    have put : ∀ (o' : Obj) (kv' : List (Key × Value)) (h' : Heap) (tk : Tok), h'.get? a = some o' → Heap.SameBut a c.s.heap h' → isDk w c.p o' kv' → kv' = setV kvs key v → OutU w g c (c.H.set k (.dct (setL es key d))) { c.s with heap := h', toks := tk } := by
      intro o' kv' h' tk ho' hsb hdk e
      obtain ⟨W', G'⟩ := W.put hφ hO rfl (s' := { c.s with heap := h', toks := tk }) (O' := .dct (setL es key d)) (fun b y m q => (hsb.2 b fun z => m (z ▸ .head _)).trans q) rfl rfl (.dct ho' hs (e ▸ hdk) (vkds_set Vd V))
      exact ⟨W', G'⟩
    cases key with
    | s y =>
      obtain ⟨t, rfl⟩ := K
      obtain ⟨l, rfl, D⟩ := Dk
      refine wpAny_setItem_pairs (knd := PySem.strKind pw w) (k := y) (by simp [PySem.strKind, Value.isStrOf]) (dictOf hg D) (fun h' D' S' => ?_) (sz (List.length_map ..).symm)
      obtain ⟨o', ho', dO⟩ := dictO_of D'
      exact put o' _ h' _ ho' S' (.s _ dO) (stored_str l y v)
    | i y =>
      obtain ⟨t, rfl⟩ := K
      obtain ⟨l, rfl, D⟩ := Dk
      refine wpAny_setItem_pairs (knd := intKind pw w) (k := y) (by simp [intKind, Value.isInt]) (dictOf hg D) (fun h' D' S' => ?_) (sz (List.length_map ..).symm)
      obtain ⟨o', ho', dO⟩ := dictO_of D'
      exact put o' _ h' _ ho' S' (.i _ dO) (stored_int l y v)
    | t y =>
      obtain ⟨ak, ok, its, rfl, q1, q2, q3⟩ := K
      obtain ⟨l, rfl, D, z⟩ := Dk
      refine wpAny_setItem_heap (knd := tupleKind (intKind pw w)) (k := y) (tupleKind_room_in1 hu) (tupleKey_of (W.sub _ _ q1) q2 q3) (dictOfH W.sub hg D z) (fun h' D' S' => ?_) (sz (List.length_map ..).symm)
      obtain ⟨o', es', ep, e1, e2, e3, e4, e5, e6⟩ := D'
      refine put o' _ h' _ e1 S' (.t _ ⟨es', ep, e2, e3, e4, e6⟩ fun x hx => ?_) (storedH_tup l y ak v)
      rcases storedH_mem x hx with ⟨y', hy, f1, f2⟩ | ⟨f1, f2⟩
      · rw [← f1, ← f2]; exact z y' hy
      · rw [f1, f2]; exact ⟨ok, its, q1, q2, q3⟩
  | _ => exact nn he

/-! ### comprehensions as values and stored -/
inductive CompIs (R : Rec) (sc : Sc) (elt tgt it : Expr) (ifs : List Expr) (scope : Scope) (ρ : Rho) (H : Hp) (d : D) (H' : Hp) : Prop
  | mk {ds : List D} {H1 : Hp} {fs : List Mine.F} : ScO sc scope → isSet it = false → tgtOk tgt it = true → iters R sc it ρ H = some (ds, H1) → ds.length ≤ lim → compL R scope.names elt tgt ifs (rhoC scope ρ) ds H1 = some (fs, H') → d = .f (.lst fs) → CompIs R sc elt tgt it ifs scope ρ H d H'
theorem compE_is {tgt it elt : Expr} {ifs : List Expr} {scope : Scope} {d : D} {H H' : Hp} (h : compE R sc elt tgt it ifs scope ρ H = some (d, H')) : CompIs R sc elt tgt it ifs scope ρ H d H' :=
  i0 h fun q h => bE h fun ds H1 h1 h => i0 h fun hl h => mP (P := fun d H' => CompIs R sc elt tgt it ifs scope ρ H d H') h fun x h2 => by
    simp only [Bool.or_eq_true, Bool.not_eq_true', not_or, Bool.not_eq_false, Bool.not_eq_true] at q
    exact ⟨scope_ok q.1.1, q.1.2, q.2, h1, Nat.not_lt.mp hl, h2, rfl⟩
theorem ex_ListComp (GD : Gd w g T mg mb) (GF : Gf w g K T) (RS : RS w g n R) (hr : Rm A n) (W : Wd w g c) (F : Fm w env sc ρ c) {tgt it elt : Expr} {ifs : List Expr} {scope : Scope} {pos : Pos} {d : D} {H' : Hp}
    (h : compE R sc elt tgt it ifs scope ρ c.H = some (d, H')) : wpAny (model pw w) A (eval (.ListComp elt [⟨tgt, it, ifs, 0⟩] scope pos) env) (fun v s' => Out w g c v d H' s') Ef c.s := by
  obtain ⟨hs, hset, ht, h1, hl, h2, rfl⟩ := compE_is h
  rw [eval_ListComp]
  refine comp_run RS hr W F (use := none) hs hset (iters_ok GD GF RS hr W F ht h1) hl h2 fun C D s' n1 o => ?_
  obtain @⟨p, φ, m, W', G', V, hn, n2, n3, n4⟩ := o
  refine ⟨m, hn, fun h' hsb => ?_⟩
  obtain ⟨W2, G2⟩ := W'.side1 (tk := s'.toks) G' n2 n3 hsb (.inr ⟨n4, n1⟩) (.inr n1)
  exact ⟨W2, G2, V⟩
theorem comp_store (GD : Gd w g T mg mb) (GF : Gf w g K T) (RS : RS w g n R) (hr : Rm A n) (W : Wd w g c) (F : Fm w env sc ρ c) {tgt it elt : Expr} {ifs : List Expr} {scope : Scope} {pos : Pos} {d : D} {H' : Hp}
    (h : compE R sc elt tgt it ifs scope ρ c.H = some (d, H')) {y : Str} {py pos' : Pos} {ρ' : Rho} (hp : putV sc ρ y d = some ρ') :
    wpAny (model pw w) A (comprehension (.ListComp elt [⟨tgt, it, ifs, 0⟩] scope pos) scope env pos' (newList []) false (eval it env) (some (assign (.Name y py) env))) (fun _ s' => OutS w g env sc c .next .next ρ' H' s') Ef c.s := by
  obtain ⟨hs, hset, ht, h1, hl, h2, rfl⟩ := compE_is h
  refine comp_run RS hr W F (use := some (assign (.Name y py) env)) (Q := fun _ s' => OutS w g env sc c .next .next ρ' H' s') hs hset (iters_ok GD GF RS hr W F ht h1) hl h2 fun C D s' n1 o => ?_
  obtain @⟨p, φ, m, W', G', V, hn, n2, n3, n4⟩ := o
  have F' := F.go G'
  refine wpAny_assign_Name (wpT (store_ok W' (Go.toX G' : Go (frm env) c _) F' (TX.frm F') V hp) fun _ p2 φ2 s2 W2 G2 G2' F2 => ?_)
  have nf : C ∉ frm env := fun q => n1 (F.lt q)
  have aC : Al s' C := let ⟨o, es, ep, e, _⟩ := hn; ⟨o, e⟩
  refine ⟨m, hn.at' fun o e => G2'.kp C o e n2 nf, fun h' hsb => ?_⟩
  obtain ⟨W3, G3⟩ := W2.side1 (tk := s2.toks) G2 (fun q => (G2'.lv C q).elim n2 fun z => z aC) (fun o q => (G2'.pn C o q).elim (n3 o) fun q => q.elim (fun q => q aC) n2) hsb (.inr ⟨phi_go G2' n4 aC, n1⟩) (.inr n1)
  have N3 : Next w g c ⟨p2, φ2, H', s2⟩ (frm env) [C] p2 { s2 with heap := h' } := ⟨fun _ _ h => h, fun _ _ h => .inl h, W3, G3, fun a o m e => (hsb.2 a fun q => m (q ▸ .head _)).trans e⟩
  exact ⟨W3, G3, .next, N3.fm F2 fun a m q => nf (List.mem_singleton.mp q ▸ m)⟩
/-- a value that is to be named -/
theorem exN_ok {v : Expr} (hv : isLC v = false) (RS : RS w g n R) (hr : Rm A n) (W : Wd w g c) (F : Fm w env sc ρ c) {d : D} {H' : Hp} (h : exN R sc v ρ c.H = some (d, H')) :
    wpAny (model pw w) A (eval v env) (fun v s' => Out w g c v d H' s') Ef c.s := by
  cases v with
  | BinOp l op r pos => exact binA_ok RS hr W F h
  | ListComp => cases hv
  | _ => exact RS.ex A env sc _ ρ c d H' hr W F h
end
end Mine

end
noncomputable section
set_option Elab.async false
set_option maxRecDepth 100000
set_option maxHeartbeats 1000000
set_option linter.unusedVariables false
/-! statements: several names at once -/
open PySem PySem.W PySem.Spec PySem.Calls PyProof.Rows
open PySem.SeqAt
namespace Mine
section
variable {w : World} {g : Heap} {c : Cf} {A : Around} {env : Env} {sc : Sc} {ρ : Rho} {T : Tabs} {R : Rec} {n : Nat} {mg mb : Str → Option Value} {K : Frag}
noncomputable def stF (l : List (Str × D)) (ρ : Rho) : Rho := l.foldl (fun ρ e => (e.1, e.2) :: ρ.filter fun f => f.1 != e.1) ρ
theorem stF_lookup (l : List (Str × D)) : ∀ (ρ : Rho) (x : Str), (l.map (·.1)).Nodup → (stF l ρ).lookup x = (l.lookup x).or (ρ.lookup x) := by
  induction l with
  | nil => exact fun ρ x _ => rfl
  | cons e l ih =>
    intro ρ x nd
    obtain ⟨y, d⟩ := e
    obtain ⟨n1, n2⟩ := List.nodup_cons.mp nd
    show (stF l _).lookup x = _
    rw [ih _ x n2, List.lookup_cons, List.lookup_cons]
    by_cases h : x = y
    · subst h
      have : l.lookup x = none := by
        cases q : l.lookup x with
        | none => rfl
        | some a => exact absurd (List.mem_map.mpr ⟨_, lookup_mem q, rfl⟩) n1
      rw [this, beq_self_eq_true]; rfl
    · rw [show (x == y) = false from beq_eq_false_iff_ne.mpr h]
      exact congrArg _ (filter_lookup h ρ)
theorem rev_nd {l : List (Str × D)} (nd : (l.map (·.1)).Nodup) : (l.reverse.map (·.1)).Nodup := by rw [List.map_reverse]; exact (List.reverse_perm _).nodup_iff.mpr nd
theorem rev_lookup (l : List (Str × D)) (x : Str) (nd : (l.map (·.1)).Nodup) : l.reverse.lookup x = l.lookup x := by
  cases q : l.lookup x with
  | some a => exact lookup_of_mem (rev_nd nd) (List.mem_reverse.mpr (lookup_mem q))
  | none =>
    cases q' : l.reverse.lookup x with
    | none => rfl
    | some a => rw [lookup_of_mem nd (List.mem_reverse.mp (lookup_mem q'))] at q; exact nn q.symm
theorem putV_local {x : Str} {d : D} (h : sc.lookup x = some .local) : putV sc ρ x d = some ((x, d) :: ρ.filter fun e => e.1 != x) := by
  unfold putV; rw [h]; rfl
theorem names_ok {c₀ : Cf} {X : List Addr} (hT : TX env sc X) (xs : List Str) : ∀ (vs : List Value) (ds : List D) (c : Cf) (ρ : Rho), Wd w g c → Go X c₀ c → Fm w env sc ρ c → VDs w c.p c.φ vs ds → xs.length = ds.length → (∀ x ∈ xs, sc.lookup x = some .local) →
    wpAny (model pw w) A (assignInOrder (xs.map fun n => bindName env n) vs) (fun _ s' => OutT w g env sc X c₀ c (stF (xs.zip ds) ρ) s') Ef c.s := by
  induction xs with
  | nil =>
    intro vs ds c ρ W G F V hl hx
    obtain rfl := List.eq_nil_of_length_eq_zero hl.symm
    rw [show vs = [] from V.inv]
    exact wpAny_pure ⟨W, G, Go.refl, F⟩
  | cons x xs ih =>
    intro vs ds c ρ W G F V hl hx
    cases ds with
    | nil => cases hl
    | cons d ds =>
      obtain ⟨v, us, rfl, h1, h2⟩ := V.inv
      exact wpAny_bind (wpAny_holding (wpAny_bindName (wpT (store_ok W G F hT h1 (putV_local (hx x (.head _)))) fun _ p φ s1 W1 G1 G1' F1 => wpOut (ih _ _ _ _ W1 G1 F1 (h2.mono G1'.ps G1'.fs) (Nat.succ.inj hl) fun y m => hx y (.tail _ m)) fun _ s2 o => o.mid G1')))
/-- a name that stands on a line -/
noncomputable def nmAt (kind : Str → Bool) (line : Nat) (e : Expr) : Option Str := match e with
  | .Name id pos => if (kind id && pos.line == line) = true then some id else none
  | _ => none
theorem nmAt_eq {kind : Str → Bool} {line : Nat} {e : Expr} {y : Str} (h : nmAt kind line e = some y) : nameE e = some y ∧ kind y = true := by
  cases e with
  | Name id pos => exact i1 h fun q h => by cases h; exact ⟨rfl, (Bool.and_eq_true_iff.mp q).1⟩
  | _ => exact nn h
theorem bindT_name {m : Nat} {e : Expr} {y : Str} {d : D} (h : nameE e = some y) : bindT sc m e d ρ = putV sc ρ y d := by
  cases m with
  | zero => show (nameE e).bind _ = _; rw [h]; rfl
  | succ m => unfold bindT; rw [h]
theorem bindT_names {m line : Nat} {kind : Str → Bool} (hk : ∀ x, kind x = true → sc.lookup x ≠ some .cell) (es : List Expr) : ∀ {ds : List D} {ρ ρ' : Rho}, (es.filterMap (nmAt kind line)).length = es.length → ds.length = es.length → bindAll sc m es ds ρ = some ρ' →
    ρ' = stF ((es.filterMap (nmAt kind line)).zip ds) ρ ∧ es.filterMap (nmAt kind line) = es.filterMap nameE ∧ ∀ x ∈ es.filterMap (nmAt kind line), sc.lookup x = some .local := by
  induction es with
  | nil =>
    intro ds ρ ρ' hf hl h
    obtain rfl := List.eq_nil_of_length_eq_zero hl
    cases h
    exact ⟨rfl, rfl, fun _ h => absurd h List.not_mem_nil⟩
  | cons e es ih =>
    intro ds ρ ρ' hf hl h
    cases ds with
    | nil => cases hl
    | cons d ds =>
      unfold bindAll at h
      rw [List.zip_cons_cons, List.foldlM_cons] at h
      refine b1 h fun ρ1 q1 q2 => ?_
      cases q : nmAt kind line e with
      | none =>
        rw [List.filterMap_cons_none q] at hf
        exact absurd (hf ▸ List.length_filterMap_le (nmAt kind line) es) (Nat.not_succ_le_self _)
      | some y =>
        obtain ⟨e1, e2⟩ := nmAt_eq q
        rw [List.filterMap_cons_some q, List.filterMap_cons_some e1]
        rw [List.filterMap_cons_some q] at hf
        rw [bindT_name e1] at q1
        have hloc : sc.lookup y = some .local := b1 q1 fun k hk' h => by
          cases k with
          | «local» => exact hk'
          | cell => exact absurd hk' (hk y e2)
          | _ => exact nn h
        rw [putV_local hloc] at q1
        cases q1
        obtain ⟨i1, i2, i3⟩ := ih (Nat.succ.inj hf) (Nat.succ.inj hl) q2
        exact ⟨i1, congrArg _ i2, fun x mx => (List.mem_cons.mp mx).elim (fun e => e ▸ hloc) (i3 x)⟩
/-- how the stores of a tuple go: each in turn, or from behind -/
inductive SwO (env : Env) (ts : List Expr) (k1 : Nat) (p1 : Pos) (v : Expr) : Prop
  | plain : swappedStores [.Tuple ts k1 p1] v env = pure none → SwO env ts k1 p1 v
  | back (line : Nat) : (ts.filterMap (nmAt (fun id => env.kindOf id == some .local) line)).length = ts.length → (ts.filterMap nameE).Nodup → swappedStores [.Tuple ts k1 p1] v env = pure (some (ts.filterMap (nmAt (fun id => env.kindOf id == some .local) line))) → (∃ vs k p, v = .Tuple vs k p) → SwO env ts k1 p1 v
theorem swapped_ok {ts : List Expr} {k1 : Nat} {p1 : Pos} {v : Expr} (h : swapOk (.Tuple ts k1 p1) v = true) : SwO env ts k1 p1 v := by
  cases v with
  | Tuple vs k2 p2 =>
    have h := (Bool.and_eq_true_iff.mp (Bool.and_eq_true_iff.mp h).2).2
    have h : ((!(vs.all (constantsAlone 8)) || vs.all (foldedForSure 8)) && decide (ts.filterMap nameE).Nodup) = true := h
    obtain ⟨h1, h2⟩ := Bool.and_eq_true_iff.mp h
    have E : swappedStores [.Tuple ts k1 p1] (.Tuple vs k2 p2) env = pure none ∨ ∃ line, (ts.filterMap (nmAt (fun id => env.kindOf id == some .local) line)).length = ts.length ∧ swappedStores [.Tuple ts k1 p1] (.Tuple vs k2 p2) env = pure (some (ts.filterMap (nmAt (fun id => env.kindOf id == some .local) line))) := by
      unfold swappedStores
      dsimp only
      split
      · exact .inl rfl
      split
      · exact .inl rfl
      split
      · exact .inl rfl
      rename_i hn
      split
      · exact .inl rfl
      rename_i hff
      rw [if_neg fun hca => by rw [hca, (Bool.not_eq_true _).mp hff] at h1; cases h1]
      simp only [Bool.or_eq_true, bne_iff_ne, ne_eq, not_or, Decidable.not_not] at hn
      exact .inr ⟨_, hn.1, rfl⟩
    rcases E with e | ⟨line, e1, e2⟩
    · exact .plain e
    · exact .back line e1 (of_decide_eq_true h2) e2 ⟨vs, k2, p2, rfl⟩
  | _ => exact .plain rfl
theorem revV {p : Pm} {φ : Phi} {us : List Value} {ds : List D} (V : VDs w p φ us ds) : VDs w p φ us.reverse ds.reverse :=
  V.ind (P := fun us ds => VDs w p φ us.reverse ds.reverse) .nil fun _ _ _ _ h _ ih => by rw [List.reverse_cons, List.reverse_cons]; exact VDs.append (.cons h .nil) ih
theorem asg_tuple (RS : RS w g n R) (hr : Rm A n) (W : Wd w g c) (F : Fm w env sc ρ c) {ts : List Expr} {k1 : Nat} {p1 pos : Pos} {v : Expr} {d : D} {H1 : Hp} {ρ' : Rho} (hsw : swapOk (.Tuple ts k1 p1) v = true)
    (h1 : R.ex sc v ρ c.H = some (d, H1)) (h2 : bindT sc 4 (.Tuple ts k1 p1) d ρ = some ρ') :
    wpAny (model pw w) A (exec (.Assign [.Tuple ts k1 p1] v pos) env) (fun f s' => OutS w g env sc c f .next ρ' H1 s') Ef c.s := by
  have E := RS.ex A env sc v ρ c d H1 hr W F h1
  rcases swapped_ok (env := env) hsw with hw | ⟨line, hlen, nd, hw, vs, k2, p2, rfl⟩
  · have hs : swapsWithSole [.Tuple ts k1 p1] v pos.line env = pure false := by
      show swapsWith v (some (.Tuple ts k1 p1)) pos.line env = pure false
      cases v <;> rfl
    exact Assign_Tuple (wpK E fun va p φ s1 W1 G1 V1 => wpT (bindT_ok hr.2.2 4 _ W1 (Go.toX G1 : Go (frm env) c _) (F.go G1) (TX.frm F) V1 h2) fun _ p2 φ2 s2 W2 G2 G2' F2 => ⟨W2, G2, .next, F2⟩) hs hw
  · refine Assign_Tuple_swapped (wpK E fun va p φ s1 W1 G1 V1 => ?_) rfl hw
    have h2 : ((asTup d).bind fun ds => if ds.length = ts.length then bindAll sc 3 ts ds ρ else none) = some ρ' := h2
    refine b1 h2 fun ds hd h2 => i1 h2 fun hl h5 => ?_
    obtain ⟨a, o, us, rfl, hp, it, Vs⟩ := asTup_ok (c := ⟨p, φ, H1, s1⟩) V1 hd
    have IT : s1.heap.IsTuple a us.toArray := it.isTup (W1.sub _ _ hp)
    obtain ⟨b1, b2, b3⟩ := bindT_names (kind := fun id => env.kindOf id == some .local) (fun x hx q => by rw [(F.cel x q).1] at hx; cases hx) ts hlen hl h5
    rw [hlen, show ts.length = us.toArray.size by rw [List.size_toArray, Vs.length, hl]]
    refine unpackItems_tuple hr.2.2 IT fun h' he => ?_
    obtain ⟨W2, G2⟩ := W1.grow (s' := { s1 with heap := h' }) (fun a o e => he a o (Nat.ne_of_lt (Heap.lt_size e)) e) rfl
    revert b1 b2 b3 hlen
    generalize ts.filterMap (nmAt (fun id => env.kindOf id == some .local) line) = names
    intro hlen b1 b2 b3
    have ll : names.length = ds.length := hlen.trans hl.symm
    have GG := G1.trans G2
    refine wpT (names_ok (TX.frm F) names.reverse us.reverse ds.reverse _ ρ W2 (Go.toX GG : Go (frm env) c _) (F.go GG) ((revV Vs).mono G2.ps G2.fs) (by rw [List.length_reverse, List.length_reverse, ll]) fun x m => b3 x (List.mem_reverse.mp m)) fun _ p3 φ3 s3 W3 G3 G3' F3 => ⟨W3, G3, .next, F3.rho fun x d q => ?_⟩
    have zr : names.reverse.zip ds.reverse = (names.zip ds).reverse := by rw [List.zip_eq_zipWith, List.zip_eq_zipWith, List.reverse_zipWith ll]
    have nz : ((names.zip ds).map (·.1)).Nodup := by rw [List.map_fst_zip (by rw [ll]; exact Nat.le_refl _), b2]; exact nd
    rw [b1, stF_lookup _ _ _ nz] at q
    rw [zr, stF_lookup _ _ _ (rev_nd nz), rev_lookup _ _ nz]
    exact q
end
end Mine

end
noncomputable section
set_option Elab.async false
set_option maxRecDepth 100000
set_option maxHeartbeats 1000000
set_option linter.unusedVariables false
/-! the evaluator says what the model does -/
open PySem PySem.W PySem.Spec PySem.Calls PyProof.Rows
open PySem.SeqAt
namespace Mine
section
variable {w : World} {g : Heap} {c : Cf} {A : Around} {env : Env} {sc : Sc} {ρ : Rho} {T : Tabs} {R : Rec} {n : Nat} {mg mb : Str → Option Value} {K : Frag}
theorem swaps_of {t v : Expr} {line : Nat} (ht : nameE t = none) : swapsWith v (some t) line env = pure false := by
  cases v <;> first | rfl | (cases t <;> first | rfl | exact nn ht.symm)
theorem swaps_no {t v : Expr} {line : Nat} (h : isLC v = false) (h2 : (!(v.ctorIdx == 9) && !(v.ctorIdx == 10)) = true) : swapsWith v (some t) line env = pure false := by
  cases v <;> first | rfl | exact absurd h2 Bool.false_ne_true | exact absurd h.symm Bool.false_ne_true
theorem dOwn_eq {d : D} {k : Nat} (h : dOwn d = some k) : d = .own k := by cases d with | own k => cases h; rfl | _ => exact nn h
/-- a state after stores -/
theorem OutU.sts {c1 : Cf} {H' : Hp} {s' : Shared} (F : Fm w env sc ρ c) (G : Go [] c c1) (o : OutU w g c1 H' s') : OutS w g env sc c .next .next ρ H' s' :=
  let ⟨W, G'⟩ := o; ⟨W, (G.trans G').toX, .next, F.go (G.trans G')⟩
theorem asg_Attr (GK : Gk K g T) (RS : RS w g n R) (hr : Rm A n) (W : Wd w g c) (F : Fm w env sc ρ c) {o v : Expr} {a : Str} {p pos : Pos} {d : D} {H1 H' : Hp} {ρ' : Rho}
    (h1 : R.ex sc v ρ c.H = some (d, H1)) (h2 : assignD T R sc (.Attribute o a p) d ρ H1 = some (ρ', H')) :
    wpAny (model pw w) A (exec (.Assign [.Attribute o a p] v pos) env) (fun f s' => OutS w g env sc c f .next ρ' H' s') Ef c.s :=
  i0 h2 fun _ h => bE h fun dx H2 h3 h => b1 h fun k hk h => m1 (P := fun y => (ρ', H') = y → wpAny (model pw w) A (exec (.Assign [.Attribute o a p] v pos) env) (fun f s' => OutS w g env sc c f .next ρ' H' s') Ef c.s) h (fun H3 hs e => by
    cases e
    obtain rfl := dOwn_eq hk
    exact plainObj_wpAny_Assign_Attribute (wpK (RS.ex A env sc v ρ c d H1 hr W F h1) fun va p1 φ1 s1 W1 G1 V1 => wpK (RS.ex A env sc o ρ _ _ H2 hr W1 (F.go G1) h3) fun vo p2 φ2 s2 W2 G2 V2 => wpOut (setattr_ok GK W2 V2 (V1.mono G2.ps G2.fs) hs) fun _ s3 q => q.sts F (G1.trans G2)) (swaps_of rfl)) rfl
theorem asg_Sub (RS : RS w g n R) (hr : Rm A n) (W : Wd w g c) (F : Fm w env sc ρ c) {o i v : Expr} {p pos : Pos} {d : D} {H1 H' : Hp} {ρ' : Rho}
    (h1 : R.ex sc v ρ c.H = some (d, H1)) (h2 : assignD T R sc (.Subscript o i p) d ρ H1 = some (ρ', H')) :
    wpAny (model pw w) A (exec (.Assign [.Subscript o i p] v pos) env) (fun f s' => OutS w g env sc c f .next ρ' H' s') Ef c.s :=
  bE h2 fun dx H2 h3 h => bE h fun di H3 h4 h => b1 h fun k hk h => m1 (P := fun y => (ρ', H') = y → wpAny (model pw w) A (exec (.Assign [.Subscript o i p] v pos) env) (fun f s' => OutS w g env sc c f .next ρ' H' s') Ef c.s) h (fun H4 hs e => by
    cases e
    obtain rfl := dOwn_eq hk
    exact wpAny_Assign_Subscript (wpK (RS.ex A env sc v ρ c d H1 hr W F h1) fun va p1 φ1 s1 W1 G1 V1 => wpK (RS.ex A env sc o ρ _ _ H2 hr W1 (F.go G1) h3) fun vo p2 φ2 s2 W2 G2 V2 => wpK (RS.ex A env sc i ρ _ di H3 hr W2 (F.go (G1.trans G2)) h4) fun vi p3 φ3 s3 W3 G3 V3 =>
      wpOut (setItem_ok (Nat.lt_of_le_of_lt (Nat.add_le_add_left (by decide) _) hr.room10) W3 (V2.mono G3.ps G3.fs) V3 (V1.mono (G2.trans G3).ps (G2.trans G3).fs) hs) fun _ s4 q => q.sts F ((G1.trans G2).trans G3)) (swaps_of rfl)) rfl
theorem asg_Name (GD : Gd w g T mg mb) (GF : Gf w g K T) (RS : RS w g n R) (hr : Rm A n) (W : Wd w g c) (F : Fm w env sc ρ c) {x : Str} {v : Expr} {p pos : Pos} {d : D} {H1 : Hp} {ρ' : Rho} (hsw : (!(v.ctorIdx == 9) && !(v.ctorIdx == 10)) = true)
    (h1 : exN R sc v ρ c.H = some (d, H1)) (hp : putV sc ρ x d = some ρ') :
    wpAny (model pw w) A (exec (.Assign [.Name x p] v pos) env) (fun f s' => OutS w g env sc c f .next ρ' H1 s') Ef c.s := by
  have plain : swapsWith v (some (.Name x p)) pos.line env = pure false → wpAny (model pw w) A (eval v env) (fun v s' => Out w g c v d H1 s') Ef c.s → wpAny (model pw w) A (exec (.Assign [.Name x p] v pos) env) (fun f s' => OutS w g env sc c f .next ρ' H1 s') Ef c.s := fun hs E =>
    wpAny_Assign_Name (wpK E fun va p1 φ1 s1 W1 G1 V1 => wpT (store_ok W1 (Go.toX G1 : Go (frm env) c _) (F.go G1) (TX.frm F) V1 hp) fun _ p2 φ2 s2 W2 G2 G2' F2 => ⟨W2, G2, .next, F2⟩) hs
  cases q : isLC v with
  | false => exact plain (swaps_no q hsw) (exN_ok q RS hr W F h1)
  | true =>
    cases v with
    | ListComp elt gens scope lp =>
      refine b1 h1 fun gg hg h1 => ?_
      obtain rfl := oneGen_eq hg
      obtain ⟨b, hsb⟩ : ∃ b : Bool, swapsWith (.ListComp elt [⟨gg.1, gg.2.1, gg.2.2, 0⟩] scope lp) (some (.Name x p)) pos.line env = pure b := ⟨_, rfl⟩
      cases b with
      | false => exact plain hsb (ex_ListComp GD GF RS hr W F h1)
      | true =>
        rw [exec_Assign_Name_used x p _ pos hsb]
        refine wpAny_bind (wpAny_standAt (wpAny_bind ?_))
        show wpAny _ _ (do let _ ← comprehension (.ListComp elt [⟨gg.1, gg.2.1, gg.2.2, 0⟩] scope lp) scope env _ (newList []) false (eval gg.2.1 env) (some (assign (.Name x p) env))) _ _ _
        exact wpAny_bind (wpOut (comp_store GD GF RS hr W F h1 hp) fun _ s2 q => wpAny_pure (wpAny_pure q))
    | _ => cases q
theorem asg_ok (GD : Gd w g T mg mb) (GK : Gk K g T) (GF : Gf w g K T) (RS : RS w g n R) (hr : Rm A n) (W : Wd w g c) (F : Fm w env sc ρ c) {t v : Expr} {pos : Pos} {d : D} {H1 H' : Hp} {ρ' : Rho} (hsw : swapOk t v = true)
    (h1 : exA R sc t v ρ c.H = some (d, H1)) (h2 : assignD T R sc t d ρ H1 = some (ρ', H')) :
    wpAny (model pw w) A (exec (.Assign [t] v pos) env) (fun f s' => OutS w g env sc c f .next ρ' H' s') Ef c.s := by
  cases t with
  | Attribute o a p => exact asg_Attr GK RS hr W F h1 h2
  | Subscript o i p => exact asg_Sub RS hr W F h1 h2
  | Tuple ts k p => exact m1 (P := fun y => (ρ', H') = y → wpAny (model pw w) A (exec (.Assign [.Tuple ts k p] v pos) env) (fun f s' => OutS w g env sc c f .next ρ' H' s') Ef c.s) h2 (fun ρ2 hb e => by cases e; exact asg_tuple RS hr W F hsw h1 hb) rfl
  | Name x p => exact m1 (P := fun y => (ρ', H') = y → wpAny (model pw w) A (exec (.Assign [.Name x p] v pos) env) (fun f s' => OutS w g env sc c f .next ρ' H' s') Ef c.s) h2 (fun ρ2 hb e => by cases e; exact asg_Name GD GF RS hr W F (Bool.and_eq_true_iff.mp hsw).1 h1 hb) rfl
  | _ => exact nn h2
noncomputable def ExSt (w : World) (g : Heap) (A : Around) (env : Env) (c : Cf) (e : Expr) (d : D) (H' : Hp) : Prop := wpAny (model pw w) A (eval e env) (fun v s' => Out w g c v d H' s') Ef c.s
theorem stepEx_ok (GD : Gd w g T mg mb) (GK : Gk K g T) (GF : Gf w g K T) (SO : SortOk w g) (RS : RS w g n R) (hr : Rm A (n + 1)) (W : Wd w g c) (F : Fm w env sc ρ c) {e : Expr} {d : D} {H' : Hp} (h : stepEx T R sc e ρ c.H = some (d, H')) : ExSt w g A env c e d H' := by
  have hd := hr.down
  cases e with
  | Constant k x p => exact mP (P := ExSt w g A env c _) h fun f h => ex_Constant W h
  | Name x p => exact i1 h fun q h => mP (P := ExSt w g A env c _) h fun f h => ex_Name GD W F q h
  | BinOp l op r p => exact ex_BinOp RS hd W F h
  | UnaryOp op x p => exact ex_Un RS hd W F h
  | BoolOp op es p => exact ex_BoolOp RS hd es W F h
  | Compare l ops es p => exact mP (P := ExSt w g A env c _) h fun b h => (ex_Compare RS hd W F h).1
  | IfExp t a b p => exact ex_IfExp RS hd W F h
  | Tuple es k p => exact ex_Tuple RS hd W F h
  | List es p => exact ex_List RS hd W F h
  | Dict ks vs p => exact ex_Dict RS hd W F h
  | Attribute o a p => exact ex_Attribute GK RS hd W F h
  | Subscript o i p =>
    dsimp only [stepEx] at h
    cases q : sliceE i with
    | some x => rw [q] at h; obtain ⟨p2, rfl⟩ := sliceE_eq q; exact ex_Slice RS hd W F h
    | none => rw [q] at h; exact ex_Subscript RS hd W F h
  | ListComp elt gens scope p => exact b1 h fun x hx h => by obtain rfl := oneGen_eq hx; exact ex_ListComp GD GF RS hd W F h
  | Call f args ks pos =>
    refine i1 h fun q h => ?_
    obtain rfl := List.isEmpty_iff.mp q
    cases f with
    | Attribute o m apos =>
      refine i0 h fun q h => ?_
      simp only [Bool.or_eq_true, Bool.not_eq_true', not_or, Bool.not_eq_false, Bool.not_eq_true, decide_eq_false_iff_not, Decidable.not_not] at q
      exact ex_Meth GD GK GF SO RS hr W F q.1.1 q.1.2 q.2 h
    | Name nm np => exact ex_Call GD GK GF SO RS hr W F h
    | _ => exact nn h
  | _ => exact nn h
noncomputable def TsSt (w : World) (g : Heap) (A : Around) (env : Env) (c : Cf) (e : Expr) (b : Bool) (H' : Hp) : Prop := wpAny (model pw w) A (isTrue e env (eval e env)) (fun b' s' => OutB w g c b H' s' b') Ef c.s
theorem plainT_ok (RS : RS w g n R) (hr : Rm A n) (W : Wd w g c) (F : Fm w env sc ρ c) {e : Expr} {b : Bool} {H' : Hp} (h : plainT R sc e ρ c.H = some (b, H')) (he : ∀ whole, isTrue e env whole = (do let v ← whole; standAt e.pos; holding [v] (PySem.truthy v))) : TsSt w g A env c e b H' :=
  bE h fun d H1 h1 h => m1 (P := fun y => (b, H') = y → TsSt w g A env c e b H') h (fun b2 h2 e' => by
    cases e'
    exact isTrue_plain (wpK (RS.ex A env sc _ ρ c d H1 hr W F h1) fun v p φ s1 W1 G1 V1 => truthy_ok W1 V1 h2 ⟨W1, G1⟩) (he _)) rfl
theorem stepTs_ok (RS : RS w g n R) (hr : Rm A n) (W : Wd w g c) (F : Fm w env sc ρ c) {e : Expr} {b : Bool} {H' : Hp} (h : stepTs R sc e ρ c.H = some (b, H')) : TsSt w g A env c e b H' := by
  cases e with
  | UnaryOp op x p =>
    by_cases q : (op == .Not) = true
    · have h : (if (op == UnaryOp.Not) = true then (R.ts sc x ρ c.H).map fun b => (!b.1, b.2) else plainT R sc (.UnaryOp op x p) ρ c.H) = some (b, H') := h
      rw [if_pos q] at h
      obtain rfl := eq_of_beq q
      exact m1 (P := fun y => (b, H') = y → TsSt w g A env c (.UnaryOp .Not x p) b H') h (fun b2 h2 e' => by
        cases e'
        exact isTrue_not (wpB (RS.ts A env sc _ ρ c b2.1 b2.2 hr W F h2) fun p φ s1 W1 G1 => ⟨W1, G1⟩)) rfl
    · have h : (if (op == UnaryOp.Not) = true then (R.ts sc x ρ c.H).map fun b => (!b.1, b.2) else plainT R sc (.UnaryOp op x p) ρ c.H) = some (b, H') := h
      rw [if_neg q] at h
      exact plainT_ok RS hr W F h fun whole => by cases op <;> first | rfl | exact absurd rfl q
  | BoolOp op es p => exact ts_BoolOp RS hr es W F h
  | Compare l ops es p => exact (ex_Compare RS hr W F h).2 _
  | IfExp => exact nn h
  | _ => exact plainT_ok RS hr W F h fun whole => rfl
noncomputable def StSt (w : World) (g : Heap) (A : Around) (env : Env) (sc : Sc) (c : Cf) (st : Stmt) (fl : Fl) (ρ' : Rho) (H' : Hp) : Prop := wpAny (model pw w) A (exec st env) (fun f s' => OutS w g env sc c f fl ρ' H' s') Ef c.s
theorem aug_st (GD : Gd w g T mg mb) (RS : RS w g n R) (hr : Rm A n) (W : Wd w g c) (F : Fm w env sc ρ c) {x : Str} {p pos : Pos} {op : Operator} {v : Expr} {a b d : D} {H1 : Hp} {ρ' : Rho} (q : nameOk x = true) (h1 : var T sc ρ x = some a) (h2 : R.ex sc v ρ c.H = some (b, H1)) (h3 : augI op a b = some d) (h4 : putV sc ρ x d = some ρ') :
    StSt w g A env sc c (.AugAssign (.Name x p) op v pos) .next ρ' H1 :=
  wpAny_AugAssign_Name (var_ok GD W F h1 (nameOk_ok q).1 (nameOk_ok q).2 fun va Va => wpK (RS.ex A env sc v ρ c b H1 hr W F h2) fun vb p1 φ1 s1 W1 G1 V1 => wpK (aug_ok W1 (Va.mono G1.ps G1.fs) V1 h3) fun vc p2 φ2 s2 W2 G2 V2 =>
    wpT (store_ok W2 (Go.toX (G1.trans G2) : Go (frm env) c _) (F.go (G1.trans G2)) (TX.frm F) V2 h4) fun _ p3 φ3 s3 W3 G3 G3' F3 => ⟨W3, G3, .next, F3⟩)
theorem no_ref {v : Value} {d : D} {p : Pm} {φ : Phi} (V : VD w p φ v d) (h : noValue d = true) : (match (v : Value) with | .ref _ => False | _ => True) := by
  rcases Bool.or_eq_true_iff.mp h with h | h
  · obtain rfl := dNone_ok V h; trivial
  · obtain ⟨i, h⟩ := Option.isSome_iff_exists.mp h
    obtain ⟨t, rfl⟩ := dInt_ok V h; trivial
theorem step1_ok (GD : Gd w g T mg mb) (GK : Gk K g T) (GF : Gf w g K T) (RS : RS w g n R) (hr : Rm A n) (W : Wd w g c) (F : Fm w env sc ρ c) {st : Stmt} {fl : Fl} {ρ' : Rho} {H' : Hp} (h : step1 T R sc st ρ c.H = some (fl, ρ', H')) : StSt w g A env sc c st fl ρ' H' := by
  cases st with
  | Return o p =>
    cases o with
    | none => cases h; exact wpAny_Return_none ⟨W, Go.refl, .ret (.f .none), F⟩
    | some e => exact m1 (P := fun y => StSt w g A env sc c (.Return (some e) p) y.1 y.2.1 y.2.2) h fun x h1 => wpAny_Return_some (wpK (exV_ok RS hr c e x.1 x.2 W F h1) fun v p φ s1 W1 G1 V1 => ⟨W1, G1.toX, .ret V1, F.go G1⟩)
  | Assign ts v p =>
    refine b1 h fun t ht h => i0 h fun q h => bE h fun d H1 h1 h => m1 (P := fun y => StSt w g A env sc c (.Assign ts v p) y.1 y.2.1 y.2.2) h fun x h2 => ?_
    obtain rfl := one_eq ht
    exact asg_ok GD GK GF RS hr W F (by simpa using q) h1 h2
  | AugAssign t op v p =>
    refine b1 h fun x hx h => i0 h fun q h => b1 h fun a h1 h => bE h fun b H1 h2 h => b1 h fun d h3 h => m1 (P := fun y => StSt w g A env sc c (.AugAssign t op v p) y.1 y.2.1 y.2.2) h fun ρ2 h4 => ?_
    obtain ⟨np, rfl⟩ := nameE_eq hx
    exact aug_st GD RS hr W F (by simpa using q) h1 h2 h3 h4
  | Expr e p =>
    refine i0 h fun q h => bE h fun d H1 h1 h => i1 h fun z h => ?_
    cases h
    have hi : interactive env = false := by unfold interactive; rw [F.kind]; rfl
    cases e with
    | Call f as ks cp =>
      refine wpAny_Expr (wpK (RS.ex A env sc _ ρ c d H1 hr W F h1) fun v p φ s1 W1 G1 V1 => ?_) hi
      have nr := no_ref V1 z
      have o : OutS w g env sc c .next .next ρ H1 s1 := ⟨W1, G1.toX, .next, F.go G1⟩
      cases v <;> first | exact o | exact nr.elim
    | _ => exact absurd rfl q
  | If t a b p =>
    refine bE h fun b' H1 h1 h => wpAny_If (wpB (RS.ts A env sc t ρ c b' H1 hr W F h1) fun p φ s1 W1 G1 => ?_)
    cases b' with
    | true => exact wpOut (RS.st A env sc a ρ _ fl ρ' H' hr W1 (F.go G1) h) fun f s2 o => o.after G1.toX
    | false => exact wpOut (RS.st A env sc b ρ _ fl ρ' H' hr W1 (F.go G1) h) fun f s2 o => o.after G1.toX
  | For t it body els p =>
    refine i0 h fun q h => bE h fun ds H1 h1 h5 => ?_
    simp only [Bool.or_eq_true, Bool.not_eq_true', not_or, Bool.not_eq_false, Bool.not_eq_true] at q
    obtain rfl := List.isEmpty_iff.mp q.1.1
    exact for_ok GD GF RS hr W F q.1.2 q.2 h1 h5
  | While t body els p =>
    refine i1 h fun q h => ?_
    obtain rfl := List.isEmpty_iff.mp q
    exact while_ok RS hr W F h
  | Break p => cases h; exact wpAny_Break ⟨W, Go.refl, .brk, F⟩
  | Continue p => cases h; exact wpAny_Continue ⟨W, Go.refl, .cont, F⟩
  | _ => exact nn h
theorem stepSt_ok (GD : Gd w g T mg mb) (GK : Gk K g T) (GF : Gf w g K T) (RS : RS w g n R) (hr : Rm A n) (l : List Stmt) : ∀ {c : Cf} {ρ : Rho} {fl : Fl} {ρ' : Rho} {H' : Hp}, Wd w g c → Fm w env sc ρ c → stepSt T R sc l ρ c.H = some (fl, ρ', H') →
    wpAny (model pw w) A (execs l env) (fun f s' => OutS w g env sc c f fl ρ' H' s') Ef c.s := by
  induction l with
  | nil => intro c ρ fl ρ' H' W F h; cases h; exact wpAny_execs_nil ⟨W, Go.refl, .next, F⟩
  | cons st r ih =>
    intro c ρ fl ρ' H' W F h
    refine b3 h fun fl1 ρ1 H1 h1 h2 => wpAny_execs_cons (wpOut (step1_ok GD GK GF RS hr W F h1) fun f s1 o => ?_)
    obtain ⟨W1, G1, Fl, F1⟩ := o
    cases Fl with
    | next => exact wpOut (ih W1 F1 h2) fun f s2 o => o.after G1
    | brk => cases h2; exact ⟨W1, G1, .brk, F1⟩
    | cont => cases h2; exact ⟨W1, G1, .cont, F1⟩
    | ret V => cases h2; exact ⟨W1, G1, .ret V, F1⟩
theorem ev_ok (GD : Gd w g T mg mb) (GK : Gk K g T) (GF : Gf w g K T) (SO : SortOk w g) (n : Nat) : RS w g n (ev T n) := by
  induction n with
  | zero => exact ⟨fun _ _ _ _ _ _ _ _ _ _ _ h => nn h, fun _ _ _ _ _ _ _ _ _ _ _ h => nn h, fun _ _ _ _ _ _ _ _ _ _ _ _ h => nn h⟩
  | succ n ih => exact ⟨fun A env sc e ρ c d H' hr W F h => stepEx_ok GD GK GF SO ih hr W F h, fun A env sc e ρ c b H' hr W F h => stepTs_ok ih hr.down W F h, fun A env sc l ρ c fl ρ' H' hr W F h => stepSt_ok GD GK GF ih hr.down l W F h⟩
end
end Mine

end
noncomputable section
set_option Elab.async false
set_option maxRecDepth 100000
set_option linter.unusedVariables false
/-! printed by gen_c1.py: the text's own defs, classes and names are what the table says -/
open PySem PySem.W PySem.Spec PySem.Calls PyProof.Rows
namespace Mine
noncomputable def K1 (P : Params) : Frag := (K P).filter fun e => e.1 != 112
noncomputable def es3 (P : Params) : Array DictEntry := match (o3 P).data with | .dict es _ => es | _ => #[]
noncomputable def textChk (t : Arguments × List Stmt × Scope) (n : Nat) : Bool :=
  t.1.posonlyargs.isEmpty && t.1.kwonlyargs.isEmpty && t.1.vararg.isNone && t.1.kwarg.isNone && decide (paramsOf t).Nodup && decide (n ≤ (paramsOf t).length) &&
  (paramsOf t).all (fun x => t.2.2.names.lookup x == some .local || t.2.2.names.lookup x == some .cell) && decide (t.2.2.names.map (·.1)).Nodup && (t.2.2.kind == .function) && !t.2.2.isCoroutine && !t.2.2.isGenerator
section
variable {w : World} {g : Heap}
theorem k1_at (KI : (K1 w.params).In g) (a : Addr) {o : Obj} (h : (K1 w.params).lookup a = some o) : g.get? a = some o := KI a o h
theorem fnOk_of {K : Frag} {f : Fn} {name qual : Str} {d m c : Value} (chk : textChk f.text f.dflt.length = true)
    (h : K.lookup f.addr = some ⟨.type "function", none, .func (fnD name qual f.text d .none m c), #[]⟩) (hc : codeIn K c qual = true)
    (hd : (f.dflt = [] ∧ d = .none) ∨ ∃ Ta To items m, d = .ref Ta ∧ g.get? Ta = some To ∧ To.data = .seq items m ∧ VFs w (heldBy g) items.toList f.dflt) : FnOk w g K f := by
  simp only [textChk, Bool.and_eq_true, List.isEmpty_iff, Option.isNone_iff_eq_none, decide_eq_true_eq, Bool.not_eq_true', List.all_eq_true, Bool.or_eq_true, beq_iff_eq] at chk
  obtain ⟨⟨⟨⟨⟨⟨⟨⟨⟨⟨c1, c2⟩, c3⟩, c4⟩, c5⟩, c6⟩, c7⟩, c8⟩, c9⟩, c10⟩, c11⟩ := chk
  exact ⟨⟨_, _, _, _, h, ⟨c1, rfl, c2, c3, c4, c5⟩, rfl, rfl, rfl, rfl, rfl, hc, hd⟩, (by revert c9; cases f.text.2.2.kind <;> first | (intro _; rfl) | (intro h; cases h)), c10, c11, c6, c7, c8⟩
theorem cd_of {K : Frag} {C : Addr} (h : (match clsIn K C with | some cd => cd.hasDict | none => false) = true) : ∃ cd, clsIn K C = some cd ∧ cd.hasDict = true := by
  split at h
  · rename_i cd e; exact ⟨cd, e, h⟩
  · cases h
theorem at_of {K : Frag} {C : Addr} {l : List Str} (h : ∀ x ∈ l, findIn K (.ref C) x = some none) : ∀ x, l.contains x = true → findIn K (.ref C) x = some none := fun x hx => h x (by simpa using hx)
theorem me_of {K : Frag} {C : Addr} {l : List (Str × Fn)} (h : ∀ e ∈ l, findIn K (.ref C) e.1 = some (some (.ref e.2.addr)) ∧ typeIn K (.ref e.2.addr) = some (.type "function")) :
    ∀ m f, l.lookup m = some f → findIn K (.ref C) m = some (some (.ref f.addr)) ∧ typeIn K (.ref f.addr) = some (.type "function") := fun m f e => h (m, f) (lookup_mem e)
theorem signs_ok (KI : (K1 w.params).In g) : VF w (heldBy g) (.ref 655) (.tup [.int 97, .int 98, .int 65, .int 66, .int 48, .int 49, .int 50, .int 55]) :=
  .tup (k1_at KI 655 (o := o655 w.params) (by kernel_rfl)) ⟨rfl, 0, rfl⟩ (.cons (.int _ _) (.cons (.int _ _) (.cons (.int _ _) (.cons (.int _ _) (.cons (.int _ _) (.cons (.int _ _) (.cons (.int _ _) (.cons (.int _ _) .nil))))))))
theorem ok_f_place_by_half (KI : (K1 w.params).In g) : FnOk w g (K1 w.params) f_place_by_half := fnOk_of (by decide +kernel) (name := (Str.ofString "place_by_half")) (qual := (Str.ofString "place_by_half")) (m := (.str (Str.ofString "unicore.base") 194)) (d := .none) (c := .ref 60) (by kernel_rfl) (by kernel_rfl) (.inl ⟨rfl, rfl⟩)
theorem ok_f_is_hangul_syllable (KI : (K1 w.params).In g) : FnOk w g (K1 w.params) f_is_hangul_syllable := fnOk_of (by decide +kernel) (name := (Str.ofString "is_hangul_syllable")) (qual := (Str.ofString "is_hangul_syllable")) (m := (.str (Str.ofString "unicore.hangul") 254)) (d := .none) (c := .ref 67) (by kernel_rfl) (by kernel_rfl) (.inl ⟨rfl, rfl⟩)
theorem ok_f_hangul_parts (KI : (K1 w.params).In g) : FnOk w g (K1 w.params) f_hangul_parts := fnOk_of (by decide +kernel) (name := (Str.ofString "hangul_parts")) (qual := (Str.ofString "hangul_parts")) (m := (.str (Str.ofString "unicore.hangul") 254)) (d := .none) (c := .ref 81) (by kernel_rfl) (by kernel_rfl) (.inl ⟨rfl, rfl⟩)
theorem ok_f_form_mapping (KI : (K1 w.params).In g) : FnOk w g (K1 w.params) f_form_mapping := fnOk_of (by decide +kernel) (name := (Str.ofString "form_mapping")) (qual := (Str.ofString "form_mapping")) (m := (.str (Str.ofString "unicore.forms") 308)) (d := .none) (c := .ref 95) (by kernel_rfl) (by kernel_rfl) (.inl ⟨rfl, rfl⟩)
theorem ok_f_form_expanded (KI : (K1 w.params).In g) : FnOk w g (K1 w.params) f_form_expanded := fnOk_of (by decide +kernel) (name := (Str.ofString "form_expanded")) (qual := (Str.ofString "form_expanded")) (m := (.str (Str.ofString "unicore.forms") 308)) (d := .none) (c := .ref 102) (by kernel_rfl) (by kernel_rfl) (.inl ⟨rfl, rfl⟩)
theorem ok_f_ordered (KI : (K1 w.params).In g) : FnOk w g (K1 w.params) f_ordered := fnOk_of (by decide +kernel) (name := (Str.ofString "ordered")) (qual := (Str.ofString "ordered")) (m := (.str (Str.ofString "unicore.forms") 308)) (d := .none) (c := .ref 109) (by kernel_rfl) (by kernel_rfl) (.inl ⟨rfl, rfl⟩)
theorem ok_f_form_sorted (KI : (K1 w.params).In g) : FnOk w g (K1 w.params) f_form_sorted := fnOk_of (by decide +kernel) (name := (Str.ofString "form_sorted")) (qual := (Str.ofString "form_sorted")) (m := (.str (Str.ofString "unicore.forms") 308)) (d := .none) (c := .ref 114) (by kernel_rfl) (by kernel_rfl) (.inl ⟨rfl, rfl⟩)
theorem ok_f_decomposed (KI : (K1 w.params).In g) : FnOk w g (K1 w.params) f_decomposed := fnOk_of (by decide +kernel) (name := (Str.ofString "decomposed")) (qual := (Str.ofString "decomposed")) (m := (.str (Str.ofString "unicore.forms") 308)) (d := (.ref 116)) (c := .ref 122) (by kernel_rfl) (by kernel_rfl) (.inr ⟨116, _, _, _, rfl, k1_at KI 116 (o := o116 w.params) (by kernel_rfl), rfl, .cons (.bool _) .nil⟩)
theorem ok_f_form_of (KI : (K1 w.params).In g) : FnOk w g (K1 w.params) f_form_of := fnOk_of (by decide +kernel) (name := (Str.ofString "form_of")) (qual := (Str.ofString "form_of")) (m := (.str (Str.ofString "unicore.forms") 308)) (d := (.ref 181)) (c := .ref 187) (by kernel_rfl) (by kernel_rfl) (.inr ⟨181, _, _, _, rfl, k1_at KI 181 (o := o181 w.params) (by kernel_rfl), rfl, .cons .none .nil⟩)
theorem ok_f_nfd (KI : (K1 w.params).In g) : FnOk w g (K1 w.params) f_nfd := fnOk_of (by decide +kernel) (name := (Str.ofString "nfd")) (qual := (Str.ofString "nfd")) (m := (.str (Str.ofString "unicore.forms") 308)) (d := .none) (c := .ref 194) (by kernel_rfl) (by kernel_rfl) (.inl ⟨rfl, rfl⟩)
theorem ok_f_CollOptions_init (KI : (K1 w.params).In g) : FnOk w g (K1 w.params) f_CollOptions_init := fnOk_of (by decide +kernel) (name := (Str.ofString "__init__")) (qual := (Str.ofString "CollOptions.__init__")) (m := (.str (Str.ofString "unicore.collkeys") 470)) (d := (.ref 204)) (c := .ref 210) (by kernel_rfl) (by kernel_rfl) (.inr ⟨204, _, _, _, rfl, k1_at KI 204 (o := o204 w.params) (by kernel_rfl), rfl, .cons (.str _ _) (.cons (.int _ _) (.cons (.bool _) (.cons (.str _ _) (.cons (.bool _) (.cons (.bool _) (.cons .none (.cons (.tup (k1_at KI 203 (o := o203 w.params) (by kernel_rfl)) ⟨rfl, 0, rfl⟩ (.cons (.int _ _) (.cons (.int _ _) (.cons (.int _ _) .nil)))) .nil)))))))⟩)
theorem ok_f_weighted (KI : (K1 w.params).In g) : FnOk w g (K1 w.params) f_weighted := fnOk_of (by decide +kernel) (name := (Str.ofString "weighted")) (qual := (Str.ofString "weighted")) (m := (.str (Str.ofString "unicore.collkeys") 470)) (d := (.ref 233)) (c := .ref 239) (by kernel_rfl) (by kernel_rfl) (.inr ⟨233, _, _, _, rfl, k1_at KI 233 (o := o233 w.params) (by kernel_rfl), rfl, .cons (.int _ _) .nil⟩)
theorem ok_f_is_upper_third (KI : (K1 w.params).In g) : FnOk w g (K1 w.params) f_is_upper_third := fnOk_of (by decide +kernel) (name := (Str.ofString "is_upper_third")) (qual := (Str.ofString "is_upper_third")) (m := (.str (Str.ofString "unicore.collkeys") 470)) (d := (.ref 241)) (c := .ref 247) (by kernel_rfl) (by kernel_rfl) (.inr ⟨241, _, _, _, rfl, k1_at KI 241 (o := o241 w.params) (by kernel_rfl), rfl, .cons (.int _ _) .nil⟩)
theorem ok_f_collkey_first (KI : (K1 w.params).In g) : FnOk w g (K1 w.params) f_collkey_first := fnOk_of (by decide +kernel) (name := (Str.ofString "collkey_first")) (qual := (Str.ofString "collkey_first")) (m := (.str (Str.ofString "unicore.collkeys") 470)) (d := .none) (c := .ref 252) (by kernel_rfl) (by kernel_rfl) (.inl ⟨rfl, rfl⟩)
theorem ok_f_collkey_second (KI : (K1 w.params).In g) : FnOk w g (K1 w.params) f_collkey_second := fnOk_of (by decide +kernel) (name := (Str.ofString "collkey_second")) (qual := (Str.ofString "collkey_second")) (m := (.str (Str.ofString "unicore.collkeys") 470)) (d := .none) (c := .ref 257) (by kernel_rfl) (by kernel_rfl) (.inl ⟨rfl, rfl⟩)
theorem ok_f_collkey_case (KI : (K1 w.params).In g) : FnOk w g (K1 w.params) f_collkey_case := fnOk_of (by decide +kernel) (name := (Str.ofString "collkey_case")) (qual := (Str.ofString "collkey_case")) (m := (.str (Str.ofString "unicore.collkeys") 470)) (d := .none) (c := .ref 262) (by kernel_rfl) (by kernel_rfl) (.inl ⟨rfl, rfl⟩)
theorem ok_f_collkey_third (KI : (K1 w.params).In g) : FnOk w g (K1 w.params) f_collkey_third := fnOk_of (by decide +kernel) (name := (Str.ofString "collkey_third")) (qual := (Str.ofString "collkey_third")) (m := (.str (Str.ofString "unicore.collkeys") 470)) (d := .none) (c := .ref 267) (by kernel_rfl) (by kernel_rfl) (.inl ⟨rfl, rfl⟩)
theorem ok_f_collkey_levels (KI : (K1 w.params).In g) : FnOk w g (K1 w.params) f_collkey_levels := fnOk_of (by decide +kernel) (name := (Str.ofString "collkey_levels")) (qual := (Str.ofString "collkey_levels")) (m := (.str (Str.ofString "unicore.collkeys") 470)) (d := .none) (c := .ref 279) (by kernel_rfl) (by kernel_rfl) (.inl ⟨rfl, rfl⟩)
theorem ok_f_collkey_level (KI : (K1 w.params).In g) : FnOk w g (K1 w.params) f_collkey_level := fnOk_of (by decide +kernel) (name := (Str.ofString "collkey_level")) (qual := (Str.ofString "collkey_level")) (m := (.str (Str.ofString "unicore.collkeys") 470)) (d := .none) (c := .ref 286) (by kernel_rfl) (by kernel_rfl) (.inl ⟨rfl, rfl⟩)
theorem ok_f_weights_key (KI : (K1 w.params).In g) : FnOk w g (K1 w.params) f_weights_key := fnOk_of (by decide +kernel) (name := (Str.ofString "weights_key")) (qual := (Str.ofString "weights_key")) (m := (.str (Str.ofString "unicore.collkeys") 470)) (d := (.ref 288)) (c := .ref 292) (by kernel_rfl) (by kernel_rfl) (.inr ⟨288, _, _, _, rfl, k1_at KI 288 (o := o288 w.params) (by kernel_rfl), rfl, .cons .none .nil⟩)
theorem ok_f_elements_for (KI : (K1 w.params).In g) : FnOk w g (K1 w.params) f_elements_for := fnOk_of (by decide +kernel) (name := (Str.ofString "elements_for")) (qual := (Str.ofString "elements_for")) (m := (.str (Str.ofString "unicore.collkeys") 470)) (d := .none) (c := .ref 299) (by kernel_rfl) (by kernel_rfl) (.inl ⟨rfl, rfl⟩)
theorem ok_f_sort_key (KI : (K1 w.params).In g) : FnOk w g (K1 w.params) f_sort_key := fnOk_of (by decide +kernel) (name := (Str.ofString "sort_key")) (qual := (Str.ofString "sort_key")) (m := (.str (Str.ofString "unicore.collkeys") 470)) (d := .none) (c := .ref 306) (by kernel_rfl) (by kernel_rfl) (.inl ⟨rfl, rfl⟩)
theorem ok_f_compare_lists (KI : (K1 w.params).In g) : FnOk w g (K1 w.params) f_compare_lists := fnOk_of (by decide +kernel) (name := (Str.ofString "compare_lists")) (qual := (Str.ofString "compare_lists")) (m := (.str (Str.ofString "unicore.collkeys") 470)) (d := .none) (c := .ref 313) (by kernel_rfl) (by kernel_rfl) (.inl ⟨rfl, rfl⟩)
theorem ok_f_compare_weights (KI : (K1 w.params).In g) : FnOk w g (K1 w.params) f_compare_weights := fnOk_of (by decide +kernel) (name := (Str.ofString "compare_weights")) (qual := (Str.ofString "compare_weights")) (m := (.str (Str.ofString "unicore.collkeys") 470)) (d := .none) (c := .ref 320) (by kernel_rfl) (by kernel_rfl) (.inl ⟨rfl, rfl⟩)
theorem ok_f_compare (KI : (K1 w.params).In g) : FnOk w g (K1 w.params) f_compare := fnOk_of (by decide +kernel) (name := (Str.ofString "compare")) (qual := (Str.ofString "compare")) (m := (.str (Str.ofString "unicore.collkeys") 470)) (d := .none) (c := .ref 327) (by kernel_rfl) (by kernel_rfl) (.inl ⟨rfl, rfl⟩)
theorem ok_f_collkey_digit (KI : (K1 w.params).In g) : FnOk w g (K1 w.params) f_collkey_digit := fnOk_of (by decide +kernel) (name := (Str.ofString "collkey_digit")) (qual := (Str.ofString "collkey_digit")) (m := (.str (Str.ofString "unicore.collkeys") 470)) (d := .none) (c := .ref 334) (by kernel_rfl) (by kernel_rfl) (.inl ⟨rfl, rfl⟩)
theorem ok_f_collkey_figures (KI : (K1 w.params).In g) : FnOk w g (K1 w.params) f_collkey_figures := fnOk_of (by decide +kernel) (name := (Str.ofString "collkey_figures")) (qual := (Str.ofString "collkey_figures")) (m := (.str (Str.ofString "unicore.collkeys") 470)) (d := .none) (c := .ref 339) (by kernel_rfl) (by kernel_rfl) (.inl ⟨rfl, rfl⟩)
theorem ok_f_numbered_elements (KI : (K1 w.params).In g) : FnOk w g (K1 w.params) f_numbered_elements := fnOk_of (by decide +kernel) (name := (Str.ofString "numbered_elements")) (qual := (Str.ofString "numbered_elements")) (m := (.str (Str.ofString "unicore.collkeys") 470)) (d := .none) (c := .ref 344) (by kernel_rfl) (by kernel_rfl) (.inl ⟨rfl, rfl⟩)
theorem ok_f_key_levels (KI : (K1 w.params).In g) : FnOk w g (K1 w.params) f_key_levels := fnOk_of (by decide +kernel) (name := (Str.ofString "key_levels")) (qual := (Str.ofString "key_levels")) (m := (.str (Str.ofString "unicore.collkeys") 470)) (d := .none) (c := .ref 351) (by kernel_rfl) (by kernel_rfl) (.inl ⟨rfl, rfl⟩)
theorem ok_f_merged_keys (KI : (K1 w.params).In g) : FnOk w g (K1 w.params) f_merged_keys := fnOk_of (by decide +kernel) (name := (Str.ofString "merged_keys")) (qual := (Str.ofString "merged_keys")) (m := (.str (Str.ofString "unicore.collkeys") 470)) (d := .none) (c := .ref 356) (by kernel_rfl) (by kernel_rfl) (.inl ⟨rfl, rfl⟩)
theorem ok_f_prefix_bounds (KI : (K1 w.params).In g) : FnOk w g (K1 w.params) f_prefix_bounds := fnOk_of (by decide +kernel) (name := (Str.ofString "prefix_bounds")) (qual := (Str.ofString "prefix_bounds")) (m := (.str (Str.ofString "unicore.collkeys") 470)) (d := .none) (c := .ref 363) (by kernel_rfl) (by kernel_rfl) (.inl ⟨rfl, rfl⟩)
theorem ok_f_coll_ideographs (KI : (K1 w.params).In g) : FnOk w g (K1 w.params) f_coll_ideographs := fnOk_of (by decide +kernel) (name := (Str.ofString "coll_ideographs")) (qual := (Str.ofString "coll_ideographs")) (m := (.str (Str.ofString "unicore.collate") 743)) (d := .none) (c := .ref 370) (by kernel_rfl) (by kernel_rfl) (.inl ⟨rfl, rfl⟩)
theorem ok_f_CollBase_init (KI : (K1 w.params).In g) : FnOk w g (K1 w.params) f_CollBase_init := fnOk_of (by decide +kernel) (name := (Str.ofString "__init__")) (qual := (Str.ofString "CollBase.__init__")) (m := (.str (Str.ofString "unicore.collate") 743)) (d := (.ref 379)) (c := .ref 385) (by kernel_rfl) (by kernel_rfl) (.inr ⟨379, _, _, _, rfl, k1_at KI 379 (o := o379 w.params) (by kernel_rfl), rfl, .cons .none .nil⟩)
theorem ok_f_CollMatch_init (KI : (K1 w.params).In g) : FnOk w g (K1 w.params) f_CollMatch_init := fnOk_of (by decide +kernel) (name := (Str.ofString "__init__")) (qual := (Str.ofString "CollMatch.__init__")) (m := (.str (Str.ofString "unicore.collate") 743)) (d := .none) (c := .ref 418) (by kernel_rfl) (by kernel_rfl) (.inl ⟨rfl, rfl⟩)
theorem ok_f_Elements_init (KI : (K1 w.params).In g) : FnOk w g (K1 w.params) f_Elements_init := fnOk_of (by decide +kernel) (name := (Str.ofString "__init__")) (qual := (Str.ofString "Elements.__init__")) (m := (.str (Str.ofString "unicore.collate") 743)) (d := (.ref 434)) (c := .ref 440) (by kernel_rfl) (by kernel_rfl) (.inr ⟨434, _, _, _, rfl, k1_at KI 434 (o := o434 w.params) (by kernel_rfl), rfl, .cons (.bool _) .nil⟩)
theorem ok_f_Elements_put (KI : (K1 w.params).In g) : FnOk w g (K1 w.params) f_Elements_put := fnOk_of (by decide +kernel) (name := (Str.ofString "put")) (qual := (Str.ofString "Elements.put")) (m := (.str (Str.ofString "unicore.collate") 743)) (d := .none) (c := .ref 447) (by kernel_rfl) (by kernel_rfl) (.inl ⟨rfl, rfl⟩)
theorem ok_f_Elements_put_implicit (KI : (K1 w.params).In g) : FnOk w g (K1 w.params) f_Elements_put_implicit := fnOk_of (by decide +kernel) (name := (Str.ofString "put_implicit")) (qual := (Str.ofString "Elements.put_implicit")) (m := (.str (Str.ofString "unicore.collate") 743)) (d := (.ref 482)) (c := .ref 488) (by kernel_rfl) (by kernel_rfl) (.inr ⟨482, _, _, _, rfl, k1_at KI 482 (o := o482 w.params) (by kernel_rfl), rfl, .cons .none .nil⟩)
theorem ok_f_Elements_match (KI : (K1 w.params).In g) : FnOk w g (K1 w.params) f_Elements_match := fnOk_of (by decide +kernel) (name := (Str.ofString "match")) (qual := (Str.ofString "Elements.match")) (m := (.str (Str.ofString "unicore.collate") 743)) (d := .none) (c := .ref 507) (by kernel_rfl) (by kernel_rfl) (.inl ⟨rfl, rfl⟩)
theorem ok_f_Elements_with_marks (KI : (K1 w.params).In g) : FnOk w g (K1 w.params) f_Elements_with_marks := fnOk_of (by decide +kernel) (name := (Str.ofString "with_marks")) (qual := (Str.ofString "Elements.with_marks")) (m := (.str (Str.ofString "unicore.collate") 743)) (d := .none) (c := .ref 512) (by kernel_rfl) (by kernel_rfl) (.inl ⟨rfl, rfl⟩)
theorem ok_f_Elements_located (KI : (K1 w.params).In g) : FnOk w g (K1 w.params) f_Elements_located := fnOk_of (by decide +kernel) (name := (Str.ofString "located")) (qual := (Str.ofString "Elements.located")) (m := (.str (Str.ofString "unicore.collate") 743)) (d := .none) (c := .ref 517) (by kernel_rfl) (by kernel_rfl) (.inl ⟨rfl, rfl⟩)
theorem ok_f_Elements_elements_of (KI : (K1 w.params).In g) : FnOk w g (K1 w.params) f_Elements_elements_of := fnOk_of (by decide +kernel) (name := (Str.ofString "elements_of")) (qual := (Str.ofString "Elements.elements_of")) (m := (.str (Str.ofString "unicore.collate") 743)) (d := .none) (c := .ref 524) (by kernel_rfl) (by kernel_rfl) (.inl ⟨rfl, rfl⟩)
theorem ok_f_coll_live (KI : (K1 w.params).In g) : FnOk w g (K1 w.params) f_coll_live := fnOk_of (by decide +kernel) (name := (Str.ofString "coll_live")) (qual := (Str.ofString "coll_live")) (m := (.str (Str.ofString "unicore.collate") 743)) (d := .none) (c := .ref 538) (by kernel_rfl) (by kernel_rfl) (.inl ⟨rfl, rfl⟩)
theorem ok_f_coll_decomposed (KI : (K1 w.params).In g) : FnOk w g (K1 w.params) f_coll_decomposed := fnOk_of (by decide +kernel) (name := (Str.ofString "coll_decomposed")) (qual := (Str.ofString "coll_decomposed")) (m := (.str (Str.ofString "unicore.collate") 743)) (d := .none) (c := .ref 543) (by kernel_rfl) (by kernel_rfl) (.inl ⟨rfl, rfl⟩)
theorem ok_f_range_are_like (KI : (K1 w.params).In g) : FnOk w g (K1 w.params) f_range_are_like := fnOk_of (by decide +kernel) (name := (Str.ofString "range_are_like")) (qual := (Str.ofString "range_are_like")) (m := (.str (Str.ofString "unicore.ranges") 1016)) (d := .none) (c := .ref 550) (by kernel_rfl) (by kernel_rfl) (.inl ⟨rfl, rfl⟩)
theorem ok_f_RangeMap_init (KI : (K1 w.params).In g) : FnOk w g (K1 w.params) f_RangeMap_init := fnOk_of (by decide +kernel) (name := (Str.ofString "__init__")) (qual := (Str.ofString "RangeMap.__init__")) (m := (.str (Str.ofString "unicore.ranges") 1016)) (d := .none) (c := .ref 564) (by kernel_rfl) (by kernel_rfl) (.inl ⟨rfl, rfl⟩)
theorem ok_f_RangeMap_get (KI : (K1 w.params).In g) : FnOk w g (K1 w.params) f_RangeMap_get := fnOk_of (by decide +kernel) (name := (Str.ofString "get")) (qual := (Str.ofString "RangeMap.get")) (m := (.str (Str.ofString "unicore.ranges") 1016)) (d := .none) (c := .ref 571) (by kernel_rfl) (by kernel_rfl) (.inl ⟨rfl, rfl⟩)
theorem ok_f_RangeMap_put (KI : (K1 w.params).In g) : FnOk w g (K1 w.params) f_RangeMap_put := fnOk_of (by decide +kernel) (name := (Str.ofString "put")) (qual := (Str.ofString "RangeMap.put")) (m := (.str (Str.ofString "unicore.ranges") 1016)) (d := .none) (c := .ref 578) (by kernel_rfl) (by kernel_rfl) (.inl ⟨rfl, rfl⟩)
theorem ok_f_data_defaults (KI : (K1 w.params).In g) : FnOk w g (K1 w.params) f_data_defaults := fnOk_of (by decide +kernel) (name := (Str.ofString "data_defaults")) (qual := (Str.ofString "data_defaults")) (m := (.str (Str.ofString "unicore.data") 1106)) (d := .none) (c := .ref 611) (by kernel_rfl) (by kernel_rfl) (.inl ⟨rfl, rfl⟩)
theorem ok_f_Data_init (KI : (K1 w.params).In g) : FnOk w g (K1 w.params) f_Data_init := fnOk_of (by decide +kernel) (name := (Str.ofString "__init__")) (qual := (Str.ofString "Data.__init__")) (m := (.str (Str.ofString "unicore.data") 1106)) (d := .none) (c := .ref 625) (by kernel_rfl) (by kernel_rfl) (.inl ⟨rfl, rfl⟩)
theorem ok_f_Data_put (KI : (K1 w.params).In g) : FnOk w g (K1 w.params) f_Data_put := fnOk_of (by decide +kernel) (name := (Str.ofString "put")) (qual := (Str.ofString "Data.put")) (m := (.str (Str.ofString "unicore.data") 1106)) (d := .none) (c := .ref 632) (by kernel_rfl) (by kernel_rfl) (.inl ⟨rfl, rfl⟩)
theorem ok_f_Data_get (KI : (K1 w.params).In g) : FnOk w g (K1 w.params) f_Data_get := fnOk_of (by decide +kernel) (name := (Str.ofString "get")) (qual := (Str.ofString "Data.get")) (m := (.str (Str.ofString "unicore.data") 1106)) (d := .none) (c := .ref 639) (by kernel_rfl) (by kernel_rfl) (.inl ⟨rfl, rfl⟩)
theorem ok_f_Data_map_of (KI : (K1 w.params).In g) : FnOk w g (K1 w.params) f_Data_map_of := fnOk_of (by decide +kernel) (name := (Str.ofString "map_of")) (qual := (Str.ofString "Data.map_of")) (m := (.str (Str.ofString "unicore.data") 1106)) (d := .none) (c := .ref 646) (by kernel_rfl) (by kernel_rfl) (.inl ⟨rfl, rfl⟩)
theorem ok_f_law_deck (KI : (K1 w.params).In g) : FnOk w g (K1 w.params) f_law_deck := fnOk_of (by decide +kernel) (name := (Str.ofString "_law_deck")) (qual := (Str.ofString "_law_deck")) (m := (.str (Str.ofString "law_on0382_01") 1175)) (d := .none) (c := .ref 659) (by kernel_rfl) (by kernel_rfl) (.inl ⟨rfl, rfl⟩)
theorem ok_f_law_draw (KI : (K1 w.params).In g) : FnOk w g (K1 w.params) f_law_draw := fnOk_of (by decide +kernel) (name := (Str.ofString "_law_draw")) (qual := (Str.ofString "_law_draw")) (m := (.str (Str.ofString "law_on0382_01") 1175)) (d := .none) (c := .ref 666) (by kernel_rfl) (by kernel_rfl) (.inl ⟨rfl, rfl⟩)
theorem ok_f_law_tables (KI : (K1 w.params).In g) : FnOk w g (K1 w.params) f_law_tables := fnOk_of (by decide +kernel) (name := (Str.ofString "_law_tables")) (qual := (Str.ofString "_law_tables")) (m := (.str (Str.ofString "law_on0382_01") 1175)) (d := .none) (c := .ref 673) (by kernel_rfl) (by kernel_rfl) (.inl ⟨rfl, rfl⟩)
theorem ok_f_law_tokens (KI : (K1 w.params).In g) : FnOk w g (K1 w.params) f_law_tokens := fnOk_of (by decide +kernel) (name := (Str.ofString "_law_tokens")) (qual := (Str.ofString "_law_tokens")) (m := (.str (Str.ofString "law_on0382_01") 1175)) (d := .none) (c := .ref 680) (by kernel_rfl) (by kernel_rfl) (.inl ⟨rfl, rfl⟩)
theorem ok_f_law_weights (KI : (K1 w.params).In g) : FnOk w g (K1 w.params) f_law_weights := fnOk_of (by decide +kernel) (name := (Str.ofString "_law_weights")) (qual := (Str.ofString "_law_weights")) (m := (.str (Str.ofString "law_on0382_01") 1175)) (d := .none) (c := .ref 685) (by kernel_rfl) (by kernel_rfl) (.inl ⟨rfl, rfl⟩)
theorem ok_f_law_levels (KI : (K1 w.params).In g) : FnOk w g (K1 w.params) f_law_levels := fnOk_of (by decide +kernel) (name := (Str.ofString "_law_levels")) (qual := (Str.ofString "_law_levels")) (m := (.str (Str.ofString "law_on0382_01") 1175)) (d := .none) (c := .ref 690) (by kernel_rfl) (by kernel_rfl) (.inl ⟨rfl, rfl⟩)
theorem ok_f_law_key (KI : (K1 w.params).In g) : FnOk w g (K1 w.params) f_law_key := fnOk_of (by decide +kernel) (name := (Str.ofString "_law_key")) (qual := (Str.ofString "_law_key")) (m := (.str (Str.ofString "law_on0382_01") 1175)) (d := .none) (c := .ref 697) (by kernel_rfl) (by kernel_rfl) (.inl ⟨rfl, rfl⟩)
theorem ok_f_law_sign (KI : (K1 w.params).In g) : FnOk w g (K1 w.params) f_law_sign := fnOk_of (by decide +kernel) (name := (Str.ofString "_law_sign")) (qual := (Str.ofString "_law_sign")) (m := (.str (Str.ofString "law_on0382_01") 1175)) (d := .none) (c := .ref 704) (by kernel_rfl) (by kernel_rfl) (.inl ⟨rfl, rfl⟩)
theorem ok_f_law (KI : (K1 w.params).In g) : FnOk w g (K1 w.params) f_law := fnOk_of (by decide +kernel) (name := (Str.ofString "law")) (qual := (Str.ofString "law")) (m := (.str (Str.ofString "law_on0382_01") 1175)) (d := .none) (c := .ref 709) (by kernel_rfl) (by kernel_rfl) (.inl ⟨rfl, rfl⟩)
theorem fns_ok (KI : (K1 w.params).In g) : ∀ f ∈ fnsL, FnOk w g (K1 w.params) f := (List.forall_mem_cons.mpr ⟨ok_f_place_by_half KI, (List.forall_mem_cons.mpr ⟨ok_f_is_hangul_syllable KI, (List.forall_mem_cons.mpr ⟨ok_f_hangul_parts KI, (List.forall_mem_cons.mpr ⟨ok_f_form_mapping KI, (List.forall_mem_cons.mpr ⟨ok_f_form_expanded KI, (List.forall_mem_cons.mpr ⟨ok_f_ordered KI, (List.forall_mem_cons.mpr ⟨ok_f_form_sorted KI, (List.forall_mem_cons.mpr ⟨ok_f_decomposed KI, (List.forall_mem_cons.mpr ⟨ok_f_form_of KI, (List.forall_mem_cons.mpr ⟨ok_f_nfd KI, (List.forall_mem_cons.mpr ⟨ok_f_CollOptions_init KI, (List.forall_mem_cons.mpr ⟨ok_f_weighted KI, (List.forall_mem_cons.mpr ⟨ok_f_is_upper_third KI, (List.forall_mem_cons.mpr ⟨ok_f_collkey_first KI, (List.forall_mem_cons.mpr ⟨ok_f_collkey_second KI, (List.forall_mem_cons.mpr ⟨ok_f_collkey_case KI, (List.forall_mem_cons.mpr ⟨ok_f_collkey_third KI, (List.forall_mem_cons.mpr ⟨ok_f_collkey_levels KI, (List.forall_mem_cons.mpr ⟨ok_f_collkey_level KI, (List.forall_mem_cons.mpr ⟨ok_f_weights_key KI, (List.forall_mem_cons.mpr ⟨ok_f_elements_for KI, (List.forall_mem_cons.mpr ⟨ok_f_sort_key KI, (List.forall_mem_cons.mpr ⟨ok_f_compare_lists KI, (List.forall_mem_cons.mpr ⟨ok_f_compare_weights KI, (List.forall_mem_cons.mpr ⟨ok_f_compare KI, (List.forall_mem_cons.mpr ⟨ok_f_collkey_digit KI, (List.forall_mem_cons.mpr ⟨ok_f_collkey_figures KI, (List.forall_mem_cons.mpr ⟨ok_f_numbered_elements KI, (List.forall_mem_cons.mpr ⟨ok_f_key_levels KI, (List.forall_mem_cons.mpr ⟨ok_f_merged_keys KI, (List.forall_mem_cons.mpr ⟨ok_f_prefix_bounds KI, (List.forall_mem_cons.mpr ⟨ok_f_coll_ideographs KI, (List.forall_mem_cons.mpr ⟨ok_f_CollBase_init KI, (List.forall_mem_cons.mpr ⟨ok_f_CollMatch_init KI, (List.forall_mem_cons.mpr ⟨ok_f_Elements_init KI, (List.forall_mem_cons.mpr ⟨ok_f_Elements_put KI, (List.forall_mem_cons.mpr ⟨ok_f_Elements_put_implicit KI, (List.forall_mem_cons.mpr ⟨ok_f_Elements_match KI, (List.forall_mem_cons.mpr ⟨ok_f_Elements_with_marks KI, (List.forall_mem_cons.mpr ⟨ok_f_Elements_located KI, (List.forall_mem_cons.mpr ⟨ok_f_Elements_elements_of KI, (List.forall_mem_cons.mpr ⟨ok_f_coll_live KI, (List.forall_mem_cons.mpr ⟨ok_f_coll_decomposed KI, (List.forall_mem_cons.mpr ⟨ok_f_range_are_like KI, (List.forall_mem_cons.mpr ⟨ok_f_RangeMap_init KI, (List.forall_mem_cons.mpr ⟨ok_f_RangeMap_get KI, (List.forall_mem_cons.mpr ⟨ok_f_RangeMap_put KI, (List.forall_mem_cons.mpr ⟨ok_f_data_defaults KI, (List.forall_mem_cons.mpr ⟨ok_f_Data_init KI, (List.forall_mem_cons.mpr ⟨ok_f_Data_put KI, (List.forall_mem_cons.mpr ⟨ok_f_Data_get KI, (List.forall_mem_cons.mpr ⟨ok_f_Data_map_of KI, (List.forall_mem_cons.mpr ⟨ok_f_law_deck KI, (List.forall_mem_cons.mpr ⟨ok_f_law_draw KI, (List.forall_mem_cons.mpr ⟨ok_f_law_tables KI, (List.forall_mem_cons.mpr ⟨ok_f_law_tokens KI, (List.forall_mem_cons.mpr ⟨ok_f_law_weights KI, (List.forall_mem_cons.mpr ⟨ok_f_law_levels KI, (List.forall_mem_cons.mpr ⟨ok_f_law_key KI, (List.forall_mem_cons.mpr ⟨ok_f_law_sign KI, (List.forall_mem_cons.mpr ⟨ok_f_law KI, (fun _ h => nomatch h)⟩)⟩)⟩)⟩)⟩)⟩)⟩)⟩)⟩)⟩)⟩)⟩)⟩)⟩)⟩)⟩)⟩)⟩)⟩)⟩)⟩)⟩)⟩)⟩)⟩)⟩)⟩)⟩)⟩)⟩)⟩)⟩)⟩)⟩)⟩)⟩)⟩)⟩)⟩)⟩)⟩)⟩)⟩)⟩)⟩)⟩)⟩)⟩)⟩)⟩)⟩)⟩)⟩)⟩)⟩)⟩)⟩)⟩)⟩)⟩)⟩)
theorem ok_c_CollOptions (P : Params) : ClOk (K1 P) c_CollOptions where
  ga := by kernel_rfl
  gm := by kernel_rfl
  sa := by kernel_rfl
  po := by kernel_rfl
  kp := by kernel_rfl
  mks := by kernel_rfl
  cd := cd_of (by kernel_rfl)
  at_ := at_of (List.forall_mem_cons.mpr ⟨by kernel_rfl, (List.forall_mem_cons.mpr ⟨by kernel_rfl, (List.forall_mem_cons.mpr ⟨by kernel_rfl, (List.forall_mem_cons.mpr ⟨by kernel_rfl, (List.forall_mem_cons.mpr ⟨by kernel_rfl, (List.forall_mem_cons.mpr ⟨by kernel_rfl, (List.forall_mem_cons.mpr ⟨by kernel_rfl, (List.forall_mem_cons.mpr ⟨by kernel_rfl, (fun _ h => nomatch h)⟩)⟩)⟩)⟩)⟩)⟩)⟩)⟩)
  me := me_of (List.forall_mem_cons.mpr ⟨⟨by kernel_rfl, by kernel_rfl⟩, (fun _ h => nomatch h)⟩)
theorem ok_c_CollBase (P : Params) : ClOk (K1 P) c_CollBase where
  ga := by kernel_rfl
  gm := by kernel_rfl
  sa := by kernel_rfl
  po := by kernel_rfl
  kp := by kernel_rfl
  mks := by kernel_rfl
  cd := cd_of (by kernel_rfl)
  at_ := at_of (List.forall_mem_cons.mpr ⟨by kernel_rfl, (List.forall_mem_cons.mpr ⟨by kernel_rfl, (List.forall_mem_cons.mpr ⟨by kernel_rfl, (List.forall_mem_cons.mpr ⟨by kernel_rfl, (fun _ h => nomatch h)⟩)⟩)⟩)⟩)
  me := me_of (List.forall_mem_cons.mpr ⟨⟨by kernel_rfl, by kernel_rfl⟩, (fun _ h => nomatch h)⟩)
theorem ok_c_CollMatch (P : Params) : ClOk (K1 P) c_CollMatch where
  ga := by kernel_rfl
  gm := by kernel_rfl
  sa := by kernel_rfl
  po := by kernel_rfl
  kp := by kernel_rfl
  mks := by kernel_rfl
  cd := cd_of (by kernel_rfl)
  at_ := at_of (List.forall_mem_cons.mpr ⟨by kernel_rfl, (List.forall_mem_cons.mpr ⟨by kernel_rfl, (List.forall_mem_cons.mpr ⟨by kernel_rfl, (fun _ h => nomatch h)⟩)⟩)⟩)
  me := me_of (List.forall_mem_cons.mpr ⟨⟨by kernel_rfl, by kernel_rfl⟩, (fun _ h => nomatch h)⟩)
theorem ok_c_Elements (P : Params) : ClOk (K1 P) c_Elements where
  ga := by kernel_rfl
  gm := by kernel_rfl
  sa := by kernel_rfl
  po := by kernel_rfl
  kp := by kernel_rfl
  mks := by kernel_rfl
  cd := cd_of (by kernel_rfl)
  at_ := at_of (List.forall_mem_cons.mpr ⟨by kernel_rfl, (List.forall_mem_cons.mpr ⟨by kernel_rfl, (List.forall_mem_cons.mpr ⟨by kernel_rfl, (List.forall_mem_cons.mpr ⟨by kernel_rfl, (fun _ h => nomatch h)⟩)⟩)⟩)⟩)
  me := me_of (List.forall_mem_cons.mpr ⟨⟨by kernel_rfl, by kernel_rfl⟩, (List.forall_mem_cons.mpr ⟨⟨by kernel_rfl, by kernel_rfl⟩, (List.forall_mem_cons.mpr ⟨⟨by kernel_rfl, by kernel_rfl⟩, (List.forall_mem_cons.mpr ⟨⟨by kernel_rfl, by kernel_rfl⟩, (List.forall_mem_cons.mpr ⟨⟨by kernel_rfl, by kernel_rfl⟩, (List.forall_mem_cons.mpr ⟨⟨by kernel_rfl, by kernel_rfl⟩, (List.forall_mem_cons.mpr ⟨⟨by kernel_rfl, by kernel_rfl⟩, (fun _ h => nomatch h)⟩)⟩)⟩)⟩)⟩)⟩)⟩)
theorem ok_c_RangeMap (P : Params) : ClOk (K1 P) c_RangeMap where
  ga := by kernel_rfl
  gm := by kernel_rfl
  sa := by kernel_rfl
  po := by kernel_rfl
  kp := by kernel_rfl
  mks := by kernel_rfl
  cd := cd_of (by kernel_rfl)
  at_ := at_of (List.forall_mem_cons.mpr ⟨by kernel_rfl, (List.forall_mem_cons.mpr ⟨by kernel_rfl, (List.forall_mem_cons.mpr ⟨by kernel_rfl, (fun _ h => nomatch h)⟩)⟩)⟩)
  me := me_of (List.forall_mem_cons.mpr ⟨⟨by kernel_rfl, by kernel_rfl⟩, (List.forall_mem_cons.mpr ⟨⟨by kernel_rfl, by kernel_rfl⟩, (List.forall_mem_cons.mpr ⟨⟨by kernel_rfl, by kernel_rfl⟩, (fun _ h => nomatch h)⟩)⟩)⟩)
theorem ok_c_Data (P : Params) : ClOk (K1 P) c_Data where
  ga := by kernel_rfl
  gm := by kernel_rfl
  sa := by kernel_rfl
  po := by kernel_rfl
  kp := by kernel_rfl
  mks := by kernel_rfl
  cd := cd_of (by kernel_rfl)
  at_ := at_of (List.forall_mem_cons.mpr ⟨by kernel_rfl, (List.forall_mem_cons.mpr ⟨by kernel_rfl, (List.forall_mem_cons.mpr ⟨by kernel_rfl, (List.forall_mem_cons.mpr ⟨by kernel_rfl, (fun _ h => nomatch h)⟩)⟩)⟩)⟩)
  me := me_of (List.forall_mem_cons.mpr ⟨⟨by kernel_rfl, by kernel_rfl⟩, (List.forall_mem_cons.mpr ⟨⟨by kernel_rfl, by kernel_rfl⟩, (List.forall_mem_cons.mpr ⟨⟨by kernel_rfl, by kernel_rfl⟩, (List.forall_mem_cons.mpr ⟨⟨by kernel_rfl, by kernel_rfl⟩, (fun _ h => nomatch h)⟩)⟩)⟩)⟩)
theorem cls_ok (P : Params) : ∀ c ∈ clsL, ClOk (K1 P) c := (List.forall_mem_cons.mpr ⟨ok_c_CollOptions P, (List.forall_mem_cons.mpr ⟨ok_c_CollBase P, (List.forall_mem_cons.mpr ⟨ok_c_CollMatch P, (List.forall_mem_cons.mpr ⟨ok_c_Elements P, (List.forall_mem_cons.mpr ⟨ok_c_RangeMap P, (List.forall_mem_cons.mpr ⟨ok_c_Data P, (fun _ h => nomatch h)⟩)⟩)⟩)⟩)⟩)⟩)
theorem cls_fn (KI : (K1 w.params).In g) : ∀ c ∈ clsL, ∀ e ∈ c.meths, FnOk w g (K1 w.params) e.2 := (List.forall_mem_cons.mpr ⟨(List.forall_mem_cons.mpr ⟨ok_f_CollOptions_init KI, (fun _ h => nomatch h)⟩), (List.forall_mem_cons.mpr ⟨(List.forall_mem_cons.mpr ⟨ok_f_CollBase_init KI, (fun _ h => nomatch h)⟩), (List.forall_mem_cons.mpr ⟨(List.forall_mem_cons.mpr ⟨ok_f_CollMatch_init KI, (fun _ h => nomatch h)⟩), (List.forall_mem_cons.mpr ⟨(List.forall_mem_cons.mpr ⟨ok_f_Elements_init KI, (List.forall_mem_cons.mpr ⟨ok_f_Elements_put KI, (List.forall_mem_cons.mpr ⟨ok_f_Elements_put_implicit KI, (List.forall_mem_cons.mpr ⟨ok_f_Elements_match KI, (List.forall_mem_cons.mpr ⟨ok_f_Elements_with_marks KI, (List.forall_mem_cons.mpr ⟨ok_f_Elements_located KI, (List.forall_mem_cons.mpr ⟨ok_f_Elements_elements_of KI, (fun _ h => nomatch h)⟩)⟩)⟩)⟩)⟩)⟩)⟩), (List.forall_mem_cons.mpr ⟨(List.forall_mem_cons.mpr ⟨ok_f_RangeMap_init KI, (List.forall_mem_cons.mpr ⟨ok_f_RangeMap_get KI, (List.forall_mem_cons.mpr ⟨ok_f_RangeMap_put KI, (fun _ h => nomatch h)⟩)⟩)⟩), (List.forall_mem_cons.mpr ⟨(List.forall_mem_cons.mpr ⟨ok_f_Data_init KI, (List.forall_mem_cons.mpr ⟨ok_f_Data_put KI, (List.forall_mem_cons.mpr ⟨ok_f_Data_get KI, (List.forall_mem_cons.mpr ⟨ok_f_Data_map_of KI, (fun _ h => nomatch h)⟩)⟩)⟩)⟩), (fun _ h => nomatch h)⟩)⟩)⟩)⟩)⟩)⟩)
theorem gl_ok (KI : (K1 w.params).In g) : ∀ e ∈ glL, ∃ v, nsFind (es3 w.params) e.1 = some v ∧ VF w (heldBy g) v e.2 := (List.forall_mem_cons.mpr ⟨⟨(.ref 61), by kernel_rfl, .glob _⟩, (List.forall_mem_cons.mpr ⟨⟨(.ref 68), by kernel_rfl, .glob _⟩, (List.forall_mem_cons.mpr ⟨⟨(.ref 82), by kernel_rfl, .glob _⟩, (List.forall_mem_cons.mpr ⟨⟨(.ref 96), by kernel_rfl, .glob _⟩, (List.forall_mem_cons.mpr ⟨⟨(.ref 103), by kernel_rfl, .glob _⟩, (List.forall_mem_cons.mpr ⟨⟨(.ref 110), by kernel_rfl, .glob _⟩, (List.forall_mem_cons.mpr ⟨⟨(.ref 115), by kernel_rfl, .glob _⟩, (List.forall_mem_cons.mpr ⟨⟨(.ref 123), by kernel_rfl, .glob _⟩, (List.forall_mem_cons.mpr ⟨⟨(.ref 188), by kernel_rfl, .glob _⟩, (List.forall_mem_cons.mpr ⟨⟨(.ref 195), by kernel_rfl, .glob _⟩, (List.forall_mem_cons.mpr ⟨⟨(.ref 240), by kernel_rfl, .glob _⟩, (List.forall_mem_cons.mpr ⟨⟨(.ref 248), by kernel_rfl, .glob _⟩, (List.forall_mem_cons.mpr ⟨⟨(.ref 253), by kernel_rfl, .glob _⟩, (List.forall_mem_cons.mpr ⟨⟨(.ref 258), by kernel_rfl, .glob _⟩, (List.forall_mem_cons.mpr ⟨⟨(.ref 263), by kernel_rfl, .glob _⟩, (List.forall_mem_cons.mpr ⟨⟨(.ref 268), by kernel_rfl, .glob _⟩, (List.forall_mem_cons.mpr ⟨⟨(.ref 280), by kernel_rfl, .glob _⟩, (List.forall_mem_cons.mpr ⟨⟨(.ref 287), by kernel_rfl, .glob _⟩, (List.forall_mem_cons.mpr ⟨⟨(.ref 293), by kernel_rfl, .glob _⟩, (List.forall_mem_cons.mpr ⟨⟨(.ref 300), by kernel_rfl, .glob _⟩, (List.forall_mem_cons.mpr ⟨⟨(.ref 307), by kernel_rfl, .glob _⟩, (List.forall_mem_cons.mpr ⟨⟨(.ref 314), by kernel_rfl, .glob _⟩, (List.forall_mem_cons.mpr ⟨⟨(.ref 321), by kernel_rfl, .glob _⟩, (List.forall_mem_cons.mpr ⟨⟨(.ref 328), by kernel_rfl, .glob _⟩, (List.forall_mem_cons.mpr ⟨⟨(.ref 335), by kernel_rfl, .glob _⟩, (List.forall_mem_cons.mpr ⟨⟨(.ref 340), by kernel_rfl, .glob _⟩, (List.forall_mem_cons.mpr ⟨⟨(.ref 345), by kernel_rfl, .glob _⟩, (List.forall_mem_cons.mpr ⟨⟨(.ref 352), by kernel_rfl, .glob _⟩, (List.forall_mem_cons.mpr ⟨⟨(.ref 357), by kernel_rfl, .glob _⟩, (List.forall_mem_cons.mpr ⟨⟨(.ref 364), by kernel_rfl, .glob _⟩, (List.forall_mem_cons.mpr ⟨⟨(.ref 371), by kernel_rfl, .glob _⟩, (List.forall_mem_cons.mpr ⟨⟨(.ref 539), by kernel_rfl, .glob _⟩, (List.forall_mem_cons.mpr ⟨⟨(.ref 544), by kernel_rfl, .glob _⟩, (List.forall_mem_cons.mpr ⟨⟨(.ref 551), by kernel_rfl, .glob _⟩, (List.forall_mem_cons.mpr ⟨⟨(.ref 612), by kernel_rfl, .glob _⟩, (List.forall_mem_cons.mpr ⟨⟨(.ref 660), by kernel_rfl, .glob _⟩, (List.forall_mem_cons.mpr ⟨⟨(.ref 667), by kernel_rfl, .glob _⟩, (List.forall_mem_cons.mpr ⟨⟨(.ref 674), by kernel_rfl, .glob _⟩, (List.forall_mem_cons.mpr ⟨⟨(.ref 681), by kernel_rfl, .glob _⟩, (List.forall_mem_cons.mpr ⟨⟨(.ref 686), by kernel_rfl, .glob _⟩, (List.forall_mem_cons.mpr ⟨⟨(.ref 691), by kernel_rfl, .glob _⟩, (List.forall_mem_cons.mpr ⟨⟨(.ref 698), by kernel_rfl, .glob _⟩, (List.forall_mem_cons.mpr ⟨⟨(.ref 705), by kernel_rfl, .glob _⟩, (List.forall_mem_cons.mpr ⟨⟨(.ref 710), by kernel_rfl, .glob _⟩, (List.forall_mem_cons.mpr ⟨⟨(.ref 214), by kernel_rfl, .glob _⟩, (List.forall_mem_cons.mpr ⟨⟨(.ref 396), by kernel_rfl, .glob _⟩, (List.forall_mem_cons.mpr ⟨⟨(.ref 422), by kernel_rfl, .glob _⟩, (List.forall_mem_cons.mpr ⟨⟨(.ref 528), by kernel_rfl, .glob _⟩, (List.forall_mem_cons.mpr ⟨⟨(.ref 594), by kernel_rfl, .glob _⟩, (List.forall_mem_cons.mpr ⟨⟨(.ref 650), by kernel_rfl, .glob _⟩, (List.forall_mem_cons.mpr ⟨⟨(.int 1114111 196), by kernel_rfl, .int _ _⟩, (List.forall_mem_cons.mpr ⟨⟨(.int 44032 256), by kernel_rfl, .int _ _⟩, (List.forall_mem_cons.mpr ⟨⟨(.int 4352 258), by kernel_rfl, .int _ _⟩, (List.forall_mem_cons.mpr ⟨⟨(.int 4449 260), by kernel_rfl, .int _ _⟩, (List.forall_mem_cons.mpr ⟨⟨(.int 4519 262), by kernel_rfl, .int _ _⟩, (List.forall_mem_cons.mpr ⟨⟨(.int 19 264), by kernel_rfl, .int _ _⟩, (List.forall_mem_cons.mpr ⟨⟨(.int 21 266), by kernel_rfl, .int _ _⟩, (List.forall_mem_cons.mpr ⟨⟨(.int 28 268), by kernel_rfl, .int _ _⟩, (List.forall_mem_cons.mpr ⟨⟨(.int 11172 271), by kernel_rfl, .int _ _⟩, (List.forall_mem_cons.mpr ⟨⟨(.int 65535 472), by kernel_rfl, .int _ _⟩, (List.forall_mem_cons.mpr ⟨⟨(.int 32 474), by kernel_rfl, .int _ _⟩, (List.forall_mem_cons.mpr ⟨⟨(.int 2 476), by kernel_rfl, .int _ _⟩, (List.forall_mem_cons.mpr ⟨⟨(.int 254 478), by kernel_rfl, .int _ _⟩, (List.forall_mem_cons.mpr ⟨⟨(.int 32 745), by kernel_rfl, .int _ _⟩, (List.forall_mem_cons.mpr ⟨⟨(.int 2 747), by kernel_rfl, .int _ _⟩, (List.forall_mem_cons.mpr ⟨⟨(.int 64448 749), by kernel_rfl, .int _ _⟩, (List.forall_mem_cons.mpr ⟨⟨(.int 64320 751), by kernel_rfl, .int _ _⟩, (List.forall_mem_cons.mpr ⟨⟨(.int 64384 753), by kernel_rfl, .int _ _⟩, (List.forall_mem_cons.mpr ⟨⟨(.int 32768 755), by kernel_rfl, .int _ _⟩, (List.forall_mem_cons.mpr ⟨⟨(.int 32767 757), by kernel_rfl, .int _ _⟩, (List.forall_mem_cons.mpr ⟨⟨(.int 15 759), by kernel_rfl, .int _ _⟩, (List.forall_mem_cons.mpr ⟨⟨(.ref 655), by kernel_rfl, signs_ok KI⟩, (fun _ h => nomatch h)⟩)⟩)⟩)⟩)⟩)⟩)⟩)⟩)⟩)⟩)⟩)⟩)⟩)⟩)⟩)⟩)⟩)⟩)⟩)⟩)⟩)⟩)⟩)⟩)⟩)⟩)⟩)⟩)⟩)⟩)⟩)⟩)⟩)⟩)⟩)⟩)⟩)⟩)⟩)⟩)⟩)⟩)⟩)⟩)⟩)⟩)⟩)⟩)⟩)⟩)⟩)⟩)⟩)⟩)⟩)⟩)⟩)⟩)⟩)⟩)⟩)⟩)⟩)⟩)⟩)⟩)⟩)⟩)⟩)⟩)⟩)⟩)
theorem bl_ok (P : Params) : ∀ e ∈ blL, ∃ v, nsFind (es3 P) e.1 = none ∧ bootBuiltins e.1 = some v ∧ e.1 ≠ "__name__" ∧ e.2 = .glob v := (List.forall_mem_cons.mpr ⟨⟨(.builtin "len"), by kernel_rfl, by kernel_rfl, by decide, rfl⟩, (List.forall_mem_cons.mpr ⟨⟨(.builtin "max"), by kernel_rfl, by kernel_rfl, by decide, rfl⟩, (List.forall_mem_cons.mpr ⟨⟨(.builtin "min"), by kernel_rfl, by kernel_rfl, by decide, rfl⟩, (List.forall_mem_cons.mpr ⟨⟨(.builtin "isinstance"), by kernel_rfl, by kernel_rfl, by decide, rfl⟩, (List.forall_mem_cons.mpr ⟨⟨(.builtin "sorted"), by kernel_rfl, by kernel_rfl, by decide, rfl⟩, (List.forall_mem_cons.mpr ⟨⟨(.type "int"), by kernel_rfl, by kernel_rfl, by decide, rfl⟩, (List.forall_mem_cons.mpr ⟨⟨(.type "range"), by kernel_rfl, by kernel_rfl, by decide, rfl⟩, (List.forall_mem_cons.mpr ⟨⟨(.type "list"), by kernel_rfl, by kernel_rfl, by decide, rfl⟩, (List.forall_mem_cons.mpr ⟨⟨(.type "tuple"), by kernel_rfl, by kernel_rfl, by decide, rfl⟩, (List.forall_mem_cons.mpr ⟨⟨(.type "bool"), by kernel_rfl, by kernel_rfl, by decide, rfl⟩, (List.forall_mem_cons.mpr ⟨⟨(.type "enumerate"), by kernel_rfl, by kernel_rfl, by decide, rfl⟩, (List.forall_mem_cons.mpr ⟨⟨(.type "zip"), by kernel_rfl, by kernel_rfl, by decide, rfl⟩, (fun _ h => nomatch h)⟩)⟩)⟩)⟩)⟩)⟩)⟩)⟩)⟩)⟩)⟩)⟩)
theorem gk0 (KI : (K1 w.params).In g) : Gk (K1 w.params) g T where
  kin := KI
  cls a cl h := by
    have m := List.mem_of_find?_eq_some h
    have e := List.find?_some h
    exact ⟨eq_of_beq e, cls_ok _ cl m⟩
theorem gf0 (KI : (K1 w.params).In g) : Gf w g (K1 w.params) T where
  fns a f h := ⟨eq_of_beq (List.find?_some h : _), fns_ok KI f (List.mem_of_find?_eq_some (show fnsL.find? (fun f => f.addr == a) = some f from h))⟩
  mfn a cl m f h e := cls_fn KI cl (List.mem_of_find?_eq_some (show clsL.find? (fun c => c.addr == a) = some cl from h)) _ (lookup_mem e)
  en := by kernel_rfl
  zp := by kernel_rfl
theorem gd0 {mg mb : Str → Option Value} (KI : (K1 w.params).In g) (G : g.Ns mainGlobals mg) (B : g.Ns builtinsNs mb) (hl : g.NoLimit) (hb : ∀ x : Str, x ≠ "__name__" → mb x = bootBuiltins x) : Gd w g T mg mb where
  G := G
  B := B
  nolim := hl
  gls x f h := by
    have e3 : ∀ x, mg x = nsFind (es3 w.params) x := fun x => by
      obtain ⟨o, es, ep, h1, h2, _, h4⟩ := G
      rw [show mainGlobals = 3 from rfl, k1_at KI 3 (o := o3 w.params) (by kernel_rfl)] at h1
      cases h1
      have : es = es3 w.params := by unfold es3; rw [h2]
      subst this
      exact (h4 x).symm
    rcases List.mem_append.mp (lookup_mem h) with m | m
    · obtain ⟨v, h1, h2⟩ := gl_ok KI _ m
      exact ⟨v, .inl ((e3 x).trans h1), h2⟩
    · obtain ⟨v, h1, h2, h3, h4⟩ := bl_ok w.params _ m
      exact ⟨v, .inr ⟨(e3 x).trans h1, (hb x h3).trans h2⟩, (show f = .glob v from h4) ▸ VF.glob v⟩
end
end Mine

end
noncomputable section
set_option Elab.async false
set_option maxRecDepth 100000
set_option maxHeartbeats 4000000
set_option linter.unusedVariables false
/-! the walk, once the evaluator's answer is known -/
open PySem PySem.W PySem.Spec PySem.Calls PyProof.Rows
namespace Mine
noncomputable def LawVal : Prop := ∀ xs : List Int, xs.length ≤ 63 → callFn (ev T 60) f_law [.f (.lst (xs.map .int))] [] = some (.f (.bool true), [])
noncomputable def SortAll : Prop := ∀ (w : World) (g : Heap), (K1 w.params).In g → ∀ mg mb, Gd w g T mg mb → g.BuiltinsAt mg 112 → SortOk w g
theorem ints_vfs {P : Params} {h : Heap} {w : World} {p : Pm} (xs : List Int) : ∀ (vs : List Value), WellAll P h vs (ofPys (xs.map .int)) → VFs w p vs (xs.map .int) := by
  induction xs with
  | nil => intro vs W; cases W; exact .nil
  | cons x xs ih => intro vs W; cases W with | cons a b => cases a; exact .cons (.int _ _) (ih _ b)
theorem filt_lookup {α : Type} {l : List (Addr × α)} {a : Addr} {o : α} (h : (l.filter fun e => e.1 != 112).lookup a = some o) : a ≠ 112 ∧ l.lookup a = some o := by
  induction l with
  | nil => cases h
  | cons y r ih =>
    obtain ⟨b, x⟩ := y
    rw [List.filter_cons] at h
    split at h
    · rename_i q
      rw [List.lookup_cons] at h ⊢
      cases hb : a == b with
      | true => rw [hb] at h; exact ⟨fun e => by rw [eq_of_beq hb] at e; rw [e] at q; simp at q, h⟩
      | false => rw [hb] at h; exact ih h
    · rename_i q
      obtain ⟨h1, h2⟩ := ih h
      refine ⟨h1, ?_⟩
      rw [List.lookup_cons]
      have : (a == b) = false := beq_eq_false_iff_ne.mpr fun e => by
        have : b = 112 := by simpa using q
        exact h1 (e.trans this)
      rw [this]
      exact h2
theorem k1_of {w : World} {h : Heap} (KX : (K w.params).In h) : (K1 w.params).In (hideAll h [112]) := fun a o e => by
  obtain ⟨h1, h2⟩ := filt_lookup e
  exact hideAll_get _ (KX a o h2) (by simpa using h1)
theorem walk0 (LV : LawVal) (SO : SortAll) : WalkO qT looseT (XL qT []) HT.says PySem.Challenge.rw_on0382_01.row.toRowW lawRec [] fun f vs => PySem.call f vs := by
  intro w s₀ s₁ mg mb G Y fa o pm cd doc dV kV ho hd hcd hD hmg hg args vals as hpre hlay hrd hwl hlo
  have KX : (K w.params).In s₁.heap := kIn_of Y
  have T0 := G.T
  clear G Y
  wrow_args hpre hlay hrd hwl hlo
  rename_i xs _ _ _ _ _ _ _ a _ _ _ _ W1 _ _ _ hlen _
  change Well _ _ _ (.list (ofPys (xs.map .int))) at W1
  obtain ⟨vs, ha, hv⟩ : ∃ vs : List Value, s₁.heap.get? a = some { cls := .type "list", data := .seq vs.toArray } ∧ WellAll w.params s₁.heap vs (ofPys (xs.map .int)) := by cases W1 with | list ha hv => exact ⟨_, ha, hv⟩
  have h112 : s₁.heap.get? 112 = some (o112 w.params) := KX _ _ (by kernel_rfl)
  have hne : a ≠ 112 := fun e => by
    rw [e] at ha; rw [h112] at ha; cases ha
  have KI := k1_of KX
  have Hd : CodeHd s₁.heap 114 112 := codeHd_of_K KX (by kernel_rfl)
  have keep : ∀ b o, s₁.heap.get? b = some o → o.cls ≠ .none → (hideAll s₁.heap [112]).get? b = some o := fun b o e n => hideAll_get _ e fun m => by
    have : b = 112 := by simpa using m
    subst this
    rw [h112] at e; cases e; exact n rfl
  have G1 : (hideAll s₁.heap [112]).Ns mainGlobals mg := by
    obtain ⟨o, es, ep, e, r⟩ := T0.g
    refine ⟨o, es, ep, hideAll_get _ e (by decide), r⟩
  have B1 : (hideAll s₁.heap [112]).Ns builtinsNs mb := by
    obtain ⟨o, es, ep, e, r⟩ := T0.b
    refine ⟨o, es, ep, hideAll_get _ e (by decide), r⟩
  have L1 : (hideAll s₁.heap [112]).NoLimit := by
    obtain ⟨mc, ⟨o, es, ep, e, r⟩, z⟩ := T0.nolimit
    exact ⟨mc, ⟨o, es, ep, hideAll_get _ e (by decide), r⟩, z⟩
  have GD := gd0 KI G1 B1 L1 T0.builtins
  have W0 : Wd w (hideAll s₁.heap [112]) ⟨heldBy (hideAll s₁.heap [112]), [], [], s₁⟩ := ⟨fun a o h => of_hideAll _ h, fun a o h => h, rfl, fun _ _ _ _ _ h => nn h, fun _ _ _ h => nn h, fun _ _ h => nn h, fun _ _ _ h => nn h, fun b o h p => by
    rcases h with rfl | ⟨k, x, O, h1, _⟩
    · have : (hideAll s₁.heap [112]).get? 112 = none := hideAll_none _ (.head _)
      have p' : (hideAll s₁.heap [112]).get? 112 = some o := p
      rw [this] at p'; cases p'
    · exact nn h1, fun _ _ _ h => nn h, ⟨#[], h112, trivial⟩⟩
  have Va : VD w (heldBy (hideAll s₁.heap [112])) [] (.ref a) (.f (.lst (xs.map .int))) := .f (.lst (hideAll_get _ ha (by simpa using hne)) ⟨0, rfl⟩ (ints_vfs xs vs hv))
  have e710 : fa = 710 := by
    have e := (gd0 KI G1 B1 L1 T0.builtins).G
    obtain ⟨o', es, ep, h1, h2, _, h4⟩ := e
    rw [show mainGlobals = 3 from rfl, k1_at KI 3 (o := o3 w.params) (by kernel_rfl)] at h1
    cases h1
    have : es = es3 w.params := by unfold es3; rw [h2]
    subst this
    have h5 := h4 lawRec.name
    rw [hmg] at h5
    have h6 : nsFind (es3 w.params) lawRec.name = some (.ref 710) := by kernel_rfl
    rw [h6] at h5
    cases h5; rfl
  subst e710
  show wpAny (model pw w) callerA (PySem.call (.ref f_law.addr) [.ref a]) _ _ _
  have GK := gk0 KI
  have GF := gf0 KI
  have BA : (hideAll s₁.heap [112]).BuiltinsAt mg 112 := by
    obtain ⟨bm, ob, b1, b2, b3, b4, b5, b6⟩ := T0.bmain
    have n112 : bm ≠ 112 := fun q => by rw [q, h112] at b3; cases b3; cases b4
    refine ⟨bm, ob, b1, b2, fun q => ?_, n112, hideAll_get _ b3 (by simpa using n112), b4, b5, b6⟩
    have h3 : s₁.heap.get? 3 = some (o3 w.params) := KX _ _ (by kernel_rfl)
    rw [q] at b3
    rw [show mainGlobals = 3 from rfl, h3] at b3; cases b3
    injection b4 with b4
    exact absurd b4 (by decide)
  have S0 := SO w _ KI mg mb GD BA
  have hq : Rq callerA 60 := ⟨by decide +kernel, by decide +kernel, rfl⟩
  refine wpE (OutR.call (callFn_ok GD GK S0 (ok_f_law KI) (ev_ok GD GK GF S0 60) hq W0 (.cons Va .nil) (LV xs (by omega)))) fun v s' z => ?_
  obtain @⟨p', φ', W', G', V'⟩ := z
  obtain rfl : v = .bool true := V'.uf.inv
  refine ⟨.inl ⟨_, .bool true, [], rfl, fun _ => rfl, .bool _, ?_, fun _ => ⟨.nil, fun _ h => by simp at h⟩⟩, ⟨fun b o e => ?_, fun b o e => G'.sz b ⟨o, e⟩⟩, ?_, ?_⟩
  · exact postW_of (by wrow_shape) (by wtm_val) (by w_fin)
  · by_cases hb : b = 112
    · subst hb
      rw [h112] at e
      cases e
      obtain ⟨ps, h1, h2⟩ := W'.tab
      exact .inr (.inl ⟨(Hd.tab h112).isCodeTable, rfl, #[], ps, rfl, by rw [h1]; simp [tabObj, o112]⟩)
    · refine .inl (G'.kp b o e (fun l => ?_) List.not_mem_nil)
      rcases l with l | ⟨k, x, O, h1, _⟩
      · exact hb l
      · exact nn h1
  · rw [show s' = { s₁ with heap := s'.heap, toks := s'.toks } from G'.st]
  · have : s'.gens = #[] := by rw [show s' = { s₁ with heap := s'.heap, toks := s'.toks } from G'.st]; exact hg
    exact .of_eq this
end Mine

end
noncomputable section
set_option Elab.async false
set_option maxRecDepth 100000
set_option maxHeartbeats 1000000
set_option linter.unusedVariables false
/-! the one def that makes a def: sorted over nothing -/
open PySem PySem.W PySem.Spec PySem.Calls PyProof.Rows
namespace Mine
section
variable {w : World} {A : Around} {s : Shared} {E : Value → Shared → Prop}

theorem sorted_nil {l f : Addr} {Q : Value → Shared → Prop} (hl : s.heap.IsList l #[])
    (h : ∀ D h' tk c, (∀ a o, s.heap.get? a = some o → h'.get? a = some o) → ¬ Al s D → h'.get? D = some (seqObj "list" #[] c) → Q (.ref D) { s with heap := h', toks := tk }) :
    wpAny (model pw w) A (PySem.call (.builtin "sorted") [.ref l] [(Str.ofString "key", .ref f)]) Q E s := by
  refine call_function_entry_kw kind_sorted plain_sorted entry_sorted (ksk_s1 _ _) ?_
  unfold Builtin.«sorted»
  refine wpAny_bind (m := checkCount "sorted" 1 1 _) (wpAny_pure ?_)
  refine wpAny_bind (collect_list (vs := []) hl ?_ (Nat.zero_le _))
  refine wpAny_bind (wpAny_newList ?_ (Nat.zero_le _))
  have hsz : ((s.heap.push (seqObj "list" #[] 0)).update s.heap.objs.size (Obj.mapSeq (· ++ ([] : List Value).toArray))).objs.size = s.heap.objs.size + 1 := by
    rw [Heap.size_update, size_push']
  have hoL : (((s.heap.push (seqObj "list" #[] 0)).update s.heap.objs.size (Obj.mapSeq (· ++ ([] : List Value).toArray))).push (seqObj "list" ([] : List Value).toArray 0)).get? (s.heap.objs.size + 1) = some (seqObj "list" ([] : List Value).toArray 0) := by
    rw [← hsz]; exact Heap.get?_push_size _ rfl
  have keep : ∀ b o, s.heap.get? b = some o → (((s.heap.push (seqObj "list" #[] 0)).update s.heap.objs.size (Obj.mapSeq (· ++ ([] : List Value).toArray))).push (seqObj "list" ([] : List Value).toArray 0)).get? b = some o := fun b o q => by
    have hlt : b < s.heap.objs.size := Heap.lt_size q
    rw [Heap.get?_push_ne _ _ _ (by rw [hsz]; exact Nat.ne_of_lt (Nat.lt_succ_of_lt hlt)), Heap.get?_update_ne _ _ _ _ (Nat.ne_of_lt hlt), Heap.get?_push_ne _ _ _ (Nat.ne_of_lt hlt)]
    exact q
  have hs2 : (((s.heap.push (seqObj "list" #[] 0)).update s.heap.objs.size (Obj.mapSeq (· ++ ([] : List Value).toArray))).push (seqObj "list" ([] : List Value).toArray 0)).objs.size = s.heap.objs.size + 2 := by
    rw [size_push', hsz]
  show wpAny _ _ _ _ _ { s with heap := ((s.heap.push (seqObj "list" #[] 0)).update s.heap.objs.size (Obj.mapSeq (· ++ ([] : List Value).toArray))).push (seqObj "list" ([] : List Value).toArray 0) }
  rw [hsz]
  revert hoL keep hs2
  generalize ((s.heap.push (seqObj "list" #[] 0)).update s.heap.objs.size (Obj.mapSeq (· ++ ([] : List Value).toArray))).push (seqObj "list" ([] : List Value).toArray 0) = h1
  intro hoL keep hs2
  refine wpAny_bind (wpAny_holding (wpAny_call_entry_kw slot_list_sort ⟨_, hoL, rfl⟩ entry_list_sort ?body (ksk_l1 _ _)))
  case body =>
    show wpAny (model pw w) A.in1.in1 (Builtin.«list.sort» ⟨[.ref (s.heap.objs.size + 1)], _⟩) _ _ _
    rw [ksk_t1]
    unfold ksk_tree
    have s1 := Heap.SameBut.update h1 (s.heap.objs.size + 1) (Obj.mapSeq fun _ => (#[] : Array Value))
    obtain ⟨e1, ho1⟩ : ∃ e1, (h1.update (s.heap.objs.size + 1) (Obj.mapSeq fun _ => (#[] : Array Value))).get? (s.heap.objs.size + 1) = some (seqObj "list" #[] e1) := ⟨_, get?_update_seq hoL fun _ => #[]⟩
    have hs3 : (h1.update (s.heap.objs.size + 1) (Obj.mapSeq fun _ => (#[] : Array Value))).objs.size = s.heap.objs.size + 2 := by rw [Heap.size_update, hs2]
    refine wpAny_bind (listItems_at hoL rfl ?_)
    refine wpAny_bind (listUpdate_at hoL rfl ?_ (Nat.zero_le _) (Nat.zero_le _))
    have keep2 : ∀ b o, s.heap.get? b = some o → (h1.update (s.heap.objs.size + 1) (Obj.mapSeq fun _ => (#[] : Array Value))).get? b = some o := fun b o q =>
      (s1.2 b (Nat.ne_of_lt (Nat.lt_succ_of_lt (Heap.lt_size q)))).trans (keep b o q)
    revert ho1 hs3 keep2
    show (_ → _ → _ → wpAny _ _ _ _ _ { s with heap := h1.update (s.heap.objs.size + 1) (Obj.mapSeq fun _ => (#[] : Array Value)) })
    generalize h1.update (s.heap.objs.size + 1) (Obj.mapSeq fun _ => (#[] : Array Value)) = h2
    intro ho1 hs3 keep2
    refine wpAny_bind (seqEpoch_at ho1 rfl ?_)
    refine wpAny_bind (wpAny_newTuple ?_ (Nat.zero_le _))
    refine wpAny_bind (wpAny_newList ?_ (Nat.zero_le _))
    refine wpAny_holding ?_
    show wpAny _ _ (ksk_rest (s.heap.objs.size + 1) (.ref f) false #[] e1 (.ref (h2.push (seqObj "tuple" ([] : List Value).toArray 0)).objs.size)) _ _ { s with heap := (h2.push (seqObj "tuple" ([] : List Value).toArray 0)).push (seqObj "list" ([] : List Value).toArray 0) }
    have hs4 : (h2.push (seqObj "tuple" ([] : List Value).toArray 0)).objs.size = s.heap.objs.size + 3 := by rw [size_push', hs3]
    rw [hs4]
    have hk : ((h2.push (seqObj "tuple" ([] : List Value).toArray 0)).push (seqObj "list" ([] : List Value).toArray 0)).get? (s.heap.objs.size + 3) = some (seqObj "list" ([] : List Value).toArray 0) := by rw [← hs4]; exact Heap.get?_push_size _ rfl
    have ho2 : ((h2.push (seqObj "tuple" ([] : List Value).toArray 0)).push (seqObj "list" ([] : List Value).toArray 0)).get? (s.heap.objs.size + 1) = some (seqObj "list" #[] e1) := Heap.get?_push_of_some _ (Heap.get?_push_of_some _ ho1)
    have keep3 : ∀ b o, s.heap.get? b = some o → ((h2.push (seqObj "tuple" ([] : List Value).toArray 0)).push (seqObj "list" ([] : List Value).toArray 0)).get? b = some o := fun b o q => Heap.get?_push_of_some _ (Heap.get?_push_of_some _ (keep2 b o q))
    revert hk ho2 keep3
    generalize (h2.push (seqObj "tuple" ([] : List Value).toArray 0)).push (seqObj "list" ([] : List Value).toArray 0) = h3
    intro hk ho2 keep3
    unfold ksk_rest
    refine wpAny_bind (wpAny_rule ?_)
    refine wpAny_bind (m := forIn (#[] : Array Value) PUnit.unit _) (wpAny_pure ?_)
    refine wpAny_bind (listItems_at hk rfl ?_)
    unfold ksk_end
    simp only [Bool.false_eq_true, if_false]
    rw [if_pos (by decide), if_pos (by decide)]
    refine wpAny_bind (wpAny_pure ?_)
    rw [StateT.run_pure]
    refine wpAny_bind (wpAny_pure ?_)
    try dsimp only
    unfold ksk_tail
    have ea : arrOf (SortSt.mk' general' ((#[] : Array Value).zip (#[] : Array Value)) #[] 7 none) = #[] := by
      show (#[] : Array Value).zip (#[] : Array Value) = #[]
      simp
    have ef : failedOf (SortSt.mk' general' ((#[] : Array Value).zip (#[] : Array Value)) #[] 7 none) = none := rfl
    simp only [ea, ef, List.map_toArray, List.map_nil, Array.map_empty, Bool.false_eq_true, if_false]
    have ne : s.heap.objs.size + 3 ≠ s.heap.objs.size + 1 := by omega
    have t1 := Heap.SameBut.update h3 (s.heap.objs.size + 3) (Obj.mapSeq fun _ => (#[] : Array Value))
    have na1 : (h3.update (s.heap.objs.size + 3) (Obj.mapSeq fun _ => (#[] : Array Value))).get? (s.heap.objs.size + 1) = some (seqObj "list" #[] e1) := (t1.2 _ ne.symm).trans ho2
    refine wpAny_bind (listUpdate_at hk rfl ?_ (Nat.zero_le _) (Nat.zero_le _))
    refine wpAny_bind (wpAny_letGo ?_)
    refine wpAny_bind (seqEpoch_at na1 rfl ?_)
    refine wpAny_bind (listUpdate_at na1 rfl ?_ (Nat.zero_le _) (Nat.zero_le _))
    have t2 := Heap.SameBut.update (h3.update (s.heap.objs.size + 3) (Obj.mapSeq fun _ => (#[] : Array Value))) (s.heap.objs.size + 1) (Obj.mapSeq fun _ => (#[] : Array Value))
    obtain ⟨c2, hc2⟩ : ∃ c2, ((h3.update (s.heap.objs.size + 3) (Obj.mapSeq fun _ => (#[] : Array Value))).update (s.heap.objs.size + 1) (Obj.mapSeq fun _ => (#[] : Array Value))).get? (s.heap.objs.size + 1) = some (seqObj "list" #[] c2) := ⟨_, get?_update_seq na1 fun _ => #[]⟩
    simp only [bne_self_eq_false, Bool.false_eq_true, if_false]
    refine wpAny_pure ⟨_, rfl, ?_⟩
    refine wpAny_pure ⟨_, rfl, h (s.heap.objs.size + 1) _ _ c2 (fun b o q => ?_) (fun ⟨o, q⟩ => absurd (Heap.lt_size q) (Nat.not_lt.mpr (Nat.le_add_right _ _))) hc2⟩
    have lt := Heap.lt_size q
    exact (t2.2 b (Nat.ne_of_lt (Nat.lt_of_lt_of_le lt (Nat.le_add_right _ _)))).trans ((t1.2 b (Nat.ne_of_lt (Nat.lt_of_lt_of_le lt (Nat.le_add_right _ _)))).trans (keep3 b o q))
end
section
variable {w : World} {g : Heap} {c : Cf} {A : Around}
theorem Wd.tabs (W : Wd w g c) {s' : Shared} (hk : ∀ a o, a ≠ 112 → c.s.heap.get? a = some o → s'.heap.get? a = some o) (he : s' = { c.s with heap := s'.heap, toks := s'.toks }) (ht : TabOk s'.heap) :
    Wd w g { c with s := s' } ∧ Go [] c { c with s := s' } := by
  have n112 : ∀ a o, c.p a o → a ≠ 112 := fun a o h e => W.np a o (.inl e) h
  have al : ∀ a, Al c.s a → Al s' a := fun a ⟨o, e⟩ => by
    by_cases h : a = 112
    · obtain ⟨ps, e2, _⟩ := ht; exact ⟨_, h ▸ e2⟩
    · exact ⟨o, hk a o h e⟩
  refine ⟨⟨fun a o h => hk a o (n112 a o h) (W.sub a o h), W.grd, W.len, W.nd, W.ne, W.no, fun k x a h m => al a (W.lt k x a h m), W.np, fun k x O h1 h2 => ?_, ht⟩,
    ⟨fun _ _ h => h, fun _ _ h => .inl h, List.prefix_refl _, fun a o h hl _ => hk a o (fun e => hl (.inl e)) h, fun _ h => .inl h, al, he, fun _ h => .inl h⟩⟩
  have no := W.no k x h1
  cases W.tr k x O h1 h2 with
  | lst a b d => exact .lst (hk _ _ (fun e => no (e ▸ .head _)) a) b d
  | dct a e b d => exact .dct (hk _ _ (fun e => no (e ▸ .head _)) a) e b d
  | ins a b d e f => exact .ins (hk _ _ (fun e => no (e ▸ .head _)) a) b (hk _ _ (fun e => no (e ▸ .tail _ (.head _))) d) e f
  | frz v => exact .frz v
end

noncomputable def R0 : Rec := { ex := fun _ _ _ _ => none, ts := fun _ _ _ _ => none, st := fun _ _ _ _ => none }
theorem rs0 {w : World} {g : Heap} : RS w g 0 R0 := ⟨fun _ _ _ _ _ _ _ _ _ _ _ h => nn h, fun _ _ _ _ _ _ _ _ _ _ _ h => nn h, fun _ _ _ _ _ _ _ _ _ _ _ _ h => nn h⟩

noncomputable def sRet : Expr × Pos := match (fnT 23).2.1 with | [.Return (some e) p] => (e, p) | _ => default
noncomputable def sComp : Expr × Expr × Expr × Scope × Pos := match sRet.1 with | .ListComp e [⟨t, i, [], 0⟩] s p => (e, t, i, s, p) | _ => default
noncomputable def sCall : Pos × Pos × Expr × Pos × Pos := match sComp.2.2.1 with | .Call (.Name _ p) [.Name _ p2] [⟨_, l, kp⟩] cp => (p, p2, l, kp, cp) | _ => default
noncomputable def sLam : Arguments × Expr × Scope × Pos := match sCall.2.2.1 with | .Lambda a b s p => (a, b, s, p) | _ => default
theorem s_body : (fnT 23).2.1 = [.Return (some (.ListComp sComp.1 [⟨sComp.2.1, .Call (.Name (Str.ofString "sorted") sCall.1) [.Name (Str.ofString "run") sCall.2.1] [⟨some (Str.ofString "key"), .Lambda sLam.1 sLam.2.1 sLam.2.2.1 sLam.2.2.2, sCall.2.2.2.1⟩] sCall.2.2.2.2, [], 0⟩] sComp.2.2.2.1 sComp.2.2.2.2)) sRet.2] := by kernel_rfl

theorem sort_all : SortAll := by
  intro w g KI mg mb GD BA A c v d hd hu hh W V hl
  have GK := gk0 KI
  have X := ok_f_form_sorted KI
  show codeAny (model pw w) A (.call (.ref f_form_sorted.addr) ⟨[v], []⟩) _ _
  refine enter_ok GD GK X W (.cons V .nil) (ρ := [(Str.ofString "run", d)]) rfl (by show A.depth < 1000; omega) fun env s2 W2 G2 F2 dead hcode => ?_
  have ec : env.code = .ref 114 := hcode (.type "function") none #[] (fnD (Str.ofString "form_sorted") (Str.ofString "form_sorted") (fnT 23) .none .none (.str (Str.ofString "unicore.forms") 308) (.ref 114)) (by kernel_rfl)
  show wpAny (model pw w) (A.deeper env) (execs (fnT 23).2.1 env) _ _ _
  rw [s_body]
  have hr0 : Rm (A.deeper env) 0 := ⟨by show A.depth + 1 + 10 * 0 < 990; omega, by show A.units + 3 + 100 * 0 < 9800; omega, hh⟩
  refine wpAny_execs_cons (wpAny_Return_some ?_)
  rw [eval_ListComp]
  have h1 : ItersOk w g (A.deeper env) sComp.2.1 ⟨c.p, c.φ, c.H, s2⟩ env (.Call (.Name (Str.ofString "sorted") sCall.1) [.Name (Str.ofString "run") sCall.2.1] [⟨some (Str.ofString "key"), .Lambda sLam.1 sLam.2.1 sLam.2.2.1 sLam.2.2.2, sCall.2.2.2.1⟩] sCall.2.2.2.2) [] c.H := by
    refine wpAny_Call_Name_kw (wpK (ex_Name GD W2 F2 (x := Str.ofString "sorted") (d := .f (.glob (.builtin "sorted"))) (by decide) (by kernel_rfl)) fun v1 p3 φ3 s3 W3 G3 V3 => ?_)
    obtain rfl : v1 = .builtin "sorted" := V3.uf.inv
    refine callWith_kw (Calls.spliced_cons (wpK (ex_Name GD W3 (F2.go G3) (x := Str.ofString "run") (d := d) (by decide) rfl) fun v2 p4 φ4 s4 W4 G4 V4 => Calls.spliced_nil ?_))
    refine kws_cons (kla_eval rfl ?_)
    have G34 := G3.trans G4
    have F4 := F2.go G34
    obtain ⟨ps, t1, t2⟩ := W4.tab
    have hcl : closureFor sLam.2.2.1 env = pure [] := closureFor_none (by decide +kernel)
    have Hd : CodeHd s4.heap 114 112 := (codeHd_of_K KI (by kernel_rfl)).keeps W4.old
    have hb := BA.keeps W4.old
    -- once the lambda stands
    have rest : ∀ (q : Addr) (s' : Shared), (∀ a o, a ≠ 112 → s4.heap.get? a = some o → s'.heap.get? a = some o) → s' = { s4 with heap := s'.heap, toks := s'.toks } → TabOk s'.heap →
        wpAny (model pw w) (A.deeper env) (evalAll ((backToKw sCall.2.2.2.2 (keywordEach [] env)).map (·.2))) (fun vs s₂ => wpAny (model pw w) (A.deeper env) (PySem.call (.builtin "sorted") [v2] (((backToKw sCall.2.2.2.2 (keywordEach [⟨some (Str.ofString "key"), .Lambda sLam.1 sLam.2.1 sLam.2.2.1 sLam.2.2.2, sCall.2.2.2.1⟩] env)).filterMap (·.1)).zip (.ref q :: vs)))
          (fun xv s₁ => wpAny (model pw w) (A.deeper env) (pyIter xv) (fun it s₂ => SrcOut w g (A.deeper env) sComp.2.1 ⟨c.p, c.φ, c.H, s2⟩ [] c.H it s₂) Ef s₁) Ef s₂) Ef s' := by
      intro q s' hk he ht
      refine kws_nil ?_
      obtain ⟨W5, G5⟩ := W4.tabs hk he ht
      obtain ⟨a, o, vs, rfl, ha, il, Vl⟩ := asLst_ok W5 (V4.mono G5.ps G5.fs) hl
      obtain rfl : vs = [] := Vl.inv
      show wpAny (model pw w) (A.deeper env) (PySem.call (.builtin "sorted") [.ref a] [(Str.ofString "key", .ref q)]) _ _ _
      refine sorted_nil (il.isList ha) fun D h' tk cc k1 k2 k3 => ?_
      obtain ⟨W6, G6⟩ := W5.grown (s' := { s' with heap := h', toks := tk }) k1 rfl k3 k2
      exact wpOut (items_ok (A := A.deeper env) (tgt := sComp.2.1) hh W6 (v := .ref D) (d := .f (.lst [])) (ds := []) (H' := c.H) (.f (.lst addP_r ⟨cc, rfl⟩ .nil)) rfl) fun it s2 o => o.after ((G34.trans G5).trans G6)
    cases hca : codeAmong sLam.2.2.2 ps.toList with
    | none =>
      refine kla_makeFunction (name := "<lambda>") hcl F4.glb (GD.G.keeps W4.old) ec Hd t1 t2 hca (by decide) hb fun c' ctv h' tk hx hge hlt hrec htb => ?_
      refine rest _ _ (fun a o n e => Heap.get?_push_of_some _ (hx a o n e)) rfl ⟨_, Heap.get?_push_of_some _ htb, ?_⟩
      have := TriplesOk_snoc sLam.2.2.2.line sLam.2.2.2.col (.ref c') _ t2
      simpa using this
    | some cv =>
      refine kla_makeFunctionHit (name := "<lambda>") hcl F4.glb (GD.G.keeps W4.old) ec Hd t1 t2 hca hb fun ctv h' tk hx hge => ?_
      exact rest _ _ (fun a o n e => Heap.get?_push_of_some _ (hx a o e)) rfl ⟨ps, Heap.get?_push_of_some _ (hx _ _ t1), t2⟩
  refine comp_run (rs0 (w := w) (g := g)) hr0 W2 F2 (use := none) (ds := []) (H1 := c.H) (H' := c.H) (fs := []) (scope_ok (by kernel_rfl)) rfl h1 (Nat.zero_le _) rfl fun C D s' n1 o => ?_
  obtain @⟨p, φ, m, W', G', V', hn, n2, n3, n4⟩ := o
  refine ⟨m, hn, fun h' hsb => ?_⟩
  obtain ⟨W3, G3⟩ := W'.side1 (tk := s'.toks) G' n2 n3 hsb (.inr ⟨n4, n1⟩) (.inr n1)
  exact ⟨_, rfl, W3, G2.trans G3, V'⟩
end Mine

end
noncomputable section
set_option Elab.async false
set_option maxRecDepth 100000
set_option linter.unusedVariables false
/-! the tables of the law, ground -/
open PySem PySem.W
namespace Mine
noncomputable def tblF : F := .ins 528 [((Str.ofString "table"), .dct [(.t [97], .lst [.tup [.int 200, .int 32, .int 2, .bool false]]), (.t [65], .lst [.tup [.int 200, .int 32, .int 8, .bool false]]), (.t [98], .lst [.tup [.int 201, .int 32, .int 2, .bool false]]), (.t [66], .lst [.tup [.int 201, .int 32, .int 8, .bool false]]), (.t [48], .lst [.tup [.int 100, .int 32, .int 2, .bool false]]), (.t [49], .lst [.tup [.int 101, .int 32, .int 2, .bool false]]), (.t [50], .lst [.tup [.int 102, .int 32, .int 2, .bool false]]), (.t [51], .lst [.tup [.int 103, .int 32, .int 2, .bool false]]), (.t [52], .lst [.tup [.int 104, .int 32, .int 2, .bool false]]), (.t [53], .lst [.tup [.int 105, .int 32, .int 2, .bool false]]), (.t [54], .lst [.tup [.int 106, .int 32, .int 2, .bool false]]), (.t [55], .lst [.tup [.int 107, .int 32, .int 2, .bool false]]), (.t [56], .lst [.tup [.int 108, .int 32, .int 2, .bool false]]), (.t [57], .lst [.tup [.int 109, .int 32, .int 2, .bool false]])]), ((Str.ofString "longest"), .dct [(.i 97, .int 1), (.i 65, .int 1), (.i 98, .int 1), (.i 66, .int 1), (.i 48, .int 1), (.i 49, .int 1), (.i 50, .int 1), (.i 51, .int 1), (.i 52, .int 1), (.i 53, .int 1), (.i 54, .int 1), (.i 55, .int 1), (.i 56, .int 1), (.i 57, .int 1)]), ((Str.ofString "factors"), .tup [.int 1, .int 1, .int 1]), ((Str.ofString "bases"), .lst [.ins 396 [((Str.ofString "first"), .int 0), ((Str.ofString "last"), .int 1114111), ((Str.ofString "base"), .int 64448), ((Str.ofString "origin"), .none)], .ins 396 [((Str.ofString "first"), .int 19968), ((Str.ofString "last"), .int 40959), ((Str.ofString "base"), .int 64320), ((Str.ofString "origin"), .none)], .ins 396 [((Str.ofString "first"), .int 64014), ((Str.ofString "last"), .int 64015), ((Str.ofString "base"), .int 64320), ((Str.ofString "origin"), .none)], .ins 396 [((Str.ofString "first"), .int 64017), ((Str.ofString "last"), .int 64017), ((Str.ofString "base"), .int 64320), ((Str.ofString "origin"), .none)], .ins 396 [((Str.ofString "first"), .int 64019), ((Str.ofString "last"), .int 64020), ((Str.ofString "base"), .int 64320), ((Str.ofString "origin"), .none)], .ins 396 [((Str.ofString "first"), .int 64031), ((Str.ofString "last"), .int 64031), ((Str.ofString "base"), .int 64320), ((Str.ofString "origin"), .none)], .ins 396 [((Str.ofString "first"), .int 64033), ((Str.ofString "last"), .int 64033), ((Str.ofString "base"), .int 64320), ((Str.ofString "origin"), .none)], .ins 396 [((Str.ofString "first"), .int 64035), ((Str.ofString "last"), .int 64036), ((Str.ofString "base"), .int 64320), ((Str.ofString "origin"), .none)], .ins 396 [((Str.ofString "first"), .int 64039), ((Str.ofString "last"), .int 64041), ((Str.ofString "base"), .int 64320), ((Str.ofString "origin"), .none)], .ins 396 [((Str.ofString "first"), .int 13312), ((Str.ofString "last"), .int 19903), ((Str.ofString "base"), .int 64384), ((Str.ofString "origin"), .none)], .ins 396 [((Str.ofString "first"), .int 131072), ((Str.ofString "last"), .int 173791), ((Str.ofString "base"), .int 64384), ((Str.ofString "origin"), .none)], .ins 396 [((Str.ofString "first"), .int 173824), ((Str.ofString "last"), .int 177977), ((Str.ofString "base"), .int 64384), ((Str.ofString "origin"), .none)], .ins 396 [((Str.ofString "first"), .int 177984), ((Str.ofString "last"), .int 178205), ((Str.ofString "base"), .int 64384), ((Str.ofString "origin"), .none)], .ins 396 [((Str.ofString "first"), .int 178208), ((Str.ofString "last"), .int 183969), ((Str.ofString "base"), .int 64384), ((Str.ofString "origin"), .none)], .ins 396 [((Str.ofString "first"), .int 183984), ((Str.ofString "last"), .int 191456), ((Str.ofString "base"), .int 64384), ((Str.ofString "origin"), .none)], .ins 396 [((Str.ofString "first"), .int 191472), ((Str.ofString "last"), .int 192093), ((Str.ofString "base"), .int 64384), ((Str.ofString "origin"), .none)], .ins 396 [((Str.ofString "first"), .int 196608), ((Str.ofString "last"), .int 201546), ((Str.ofString "base"), .int 64384), ((Str.ofString "origin"), .none)], .ins 396 [((Str.ofString "first"), .int 201552), ((Str.ofString "last"), .int 205743), ((Str.ofString "base"), .int 64384), ((Str.ofString "origin"), .none)]])]
noncomputable def datF : F := .ins 650 [((Str.ofString "defaults"), .dct [(.s (Str.ofString "gc"), .str (Str.ofString "Cn")), (.s (Str.ofString "ccc"), .int 0), (.s (Str.ofString "bc"), .str (Str.ofString "L")), (.s (Str.ofString "lb"), .str (Str.ofString "XX")), (.s (Str.ofString "ea"), .str (Str.ofString "N")), (.s (Str.ofString "sc"), .str (Str.ofString "Zzzz")), (.s (Str.ofString "jt"), .str (Str.ofString "U")), (.s (Str.ofString "incb"), .str (Str.ofString "None")), (.s (Str.ofString "gcb"), .str (Str.ofString "Other")), (.s (Str.ofString "wb"), .str (Str.ofString "Other")), (.s (Str.ofString "sb"), .str (Str.ofString "Other")), (.s (Str.ofString "ex"), .bool false), (.s (Str.ofString "sd"), .bool false), (.s (Str.ofString "cased"), .bool false), (.s (Str.ofString "ci"), .bool false), (.s (Str.ofString "ep"), .bool false), (.s (Str.ofString "di"), .bool false), (.s (Str.ofString "ids"), .bool false), (.s (Str.ofString "idc"), .bool false), (.s (Str.ofString "xids"), .bool false), (.s (Str.ofString "xidc"), .bool false), (.s (Str.ofString "pat_syn"), .bool false), (.s (Str.ofString "pat_ws"), .bool false), (.s (Str.ofString "idst"), .bool false), (.s (Str.ofString "dm"), .none), (.s (Str.ofString "uc"), .none), (.s (Str.ofString "lc"), .none), (.s (Str.ofString "tc"), .none), (.s (Str.ofString "cf"), .none), (.s (Str.ofString "bm"), .none), (.s (Str.ofString "bpb"), .none), (.s (Str.ofString "scx"), .none), (.s (Str.ofString "nt"), .none), (.s (Str.ofString "nv"), .none), (.s (Str.ofString "name"), .none), (.s (Str.ofString "conf"), .none), (.s (Str.ofString "nfkc_cf"), .none), (.s (Str.ofString "suc"), .tup []), (.s (Str.ofString "slc"), .tup []), (.s (Str.ofString "stc"), .tup []), (.s (Str.ofString "alias"), .tup []), (.s (Str.ofString "idna"), .tup [.str (Str.ofString "disallowed"), .tup []])]), ((Str.ofString "maps"), .dct [(.s (Str.ofString "nt"), .ins 594 [((Str.ofString "default"), .none), ((Str.ofString "starts"), .lst [.int 0, .int 48, .int 58]), ((Str.ofString "values"), .lst [.none, .str (Str.ofString "de"), .none])]), (.s (Str.ofString "nv"), .ins 594 [((Str.ofString "default"), .none), ((Str.ofString "starts"), .lst [.int 0, .int 48, .int 49, .int 50, .int 51, .int 52, .int 53, .int 54, .int 55, .int 56, .int 57, .int 58]), ((Str.ofString "values"), .lst [.none, .tup [.int 0, .int 1], .tup [.int 1, .int 1], .tup [.int 2, .int 1], .tup [.int 3, .int 1], .tup [.int 4, .int 1], .tup [.int 5, .int 1], .tup [.int 6, .int 1], .tup [.int 7, .int 1], .tup [.int 8, .int 1], .tup [.int 9, .int 1], .none])]), (.s (Str.ofString "gc"), .ins 594 [((Str.ofString "default"), .str (Str.ofString "Cn")), ((Str.ofString "starts"), .lst [.int 0, .int 48, .int 58]), ((Str.ofString "values"), .lst [.str (Str.ofString "Cn"), .str (Str.ofString "Nd"), .str (Str.ofString "Cn")])])]), ((Str.ofString "properties"), .dct []), ((Str.ofString "words"), .dct [])]
theorem c_tables (n : Nat) (H : Hp) : callFn (ev T (n + 14)) f_law_tables [] H = some (.f (.tup [tblF, datF]), H) := by kernel_rfl
end Mine

end
noncomputable section
set_option Elab.async false
set_option maxRecDepth 100000
set_option linter.unusedVariables false
/-! rules: how the evaluator goes, one step at a time -/
open PySem PySem.W
namespace Mine
section
variable {T : Tabs} {R : Rec} {sc : Sc} {ρ ρ1 ρ2 : Rho} {H H1 H2 H3 : Hp} {d a b : D} {n : Nat}

theorem bd {α β : Type} {x : Option α} {f : α → Option β} {a : α} {r : Option β} (h : x = some a) (k : f a = r) : x.bind f = r := by rw [h]; exact k
theorem md {α β : Type} {x : Option α} {f : α → β} {a : α} (h : x = some a) : x.map f = some (f a) := by rw [h]; rfl

theorem Ename {x : Str} {p : Pos} (h1 : nameOk x = true) (h2 : var T sc ρ x = some d) : stepEx T R sc (.Name x p) ρ H = some (d, H) := by
  show (if nameOk x then (var T sc ρ x).map fun d => (d, H) else none) = _
  rw [if_pos h1]; exact md h2
theorem Ebin {l r : Expr} {op : Operator} {p : Pos} (h1 : exV R sc l ρ H = some (a, H1)) (h2 : exV R sc r ρ H1 = some (b, H2)) (h3 : bin op a b H2 = some d) : stepEx T R sc (.BinOp l op r p) ρ H = some (d, H2) :=
  bd h1 (bd h2 (md h3))
theorem Eidx {o i : Expr} {p : Pos} (hi : sliceE i = none) (h1 : exV R sc o ρ H = some (a, H1)) (h2 : R.ex sc i ρ H1 = some (b, H2)) (h3 : getI a b H2 = some d) : stepEx T R sc (.Subscript o i p) ρ H = some (d, H2) := by
  unfold stepEx
  dsimp only
  rw [hi]
  exact bd h1 (bd h2 (md h3))
theorem Etup {es : List Expr} {k : _} {p : Pos} {ds : List D} (h1 : decide (es.length ≤ lim) = true) (h2 : exs R sc ρ es H = some (ds, H1)) : stepEx T R sc (.Tuple es k p) ρ H = some (mkTup ds, H1) := by
  show (if es.length ≤ lim then (exs R sc ρ es H).map fun x => (mkTup x.1, x.2) else none) = _
  rw [if_pos (of_decide_eq_true h1)]; exact md h2
theorem xsN : exs R sc ρ [] H = some ([], H) := rfl
theorem mapC {f : Expr → Hp → Option (D × Hp)} {e : Expr} {r : List Expr} {ds : List D} (h0 : isStar e = false) (h1 : f e H = some (d, H1)) (h2 : mapE f r H1 = some (ds, H2)) : mapE f (e :: r) H = some (d :: ds, H2) := by
  unfold mapE; rw [h0]; exact bd h1 (md h2)
theorem xsC {e : Expr} {r : List Expr} {ds : List D} (h0 : isStar e = false) (h1 : R.ex sc e ρ H = some (d, H1)) (h2 : exs R sc ρ r H1 = some (ds, H2)) : exs R sc ρ (e :: r) H = some (d :: ds, H2) := mapC h0 h1 h2
theorem xvN : exVs R sc ρ [] H = some ([], H) := rfl
theorem xvC {e : Expr} {r : List Expr} {ds : List D} (h0 : isStar e = false) (h1 : exV R sc e ρ H = some (d, H1)) (h2 : exVs R sc ρ r H1 = some (ds, H2)) : exVs R sc ρ (e :: r) H = some (d :: ds, H2) := mapC h0 h1 h2
noncomputable def notList (e : Expr) : Bool := (listE e).isNone
theorem xV {e : Expr} {x : Option (D × Hp)} (he : notList e = true) (h : R.ex sc e ρ H = x) : exV R sc e ρ H = x := by
  unfold exV
  rw [Option.isNone_iff_eq_none.mp he]
  exact h
/-- a call of a def -/
theorem Ecall {nm : Str} {np pos : Pos} {args : List Expr} {ad : Addr} {f : Fn} {ds : List D} {r : D × Hp} (h1 : R.ex sc (.Name nm np) ρ H = some (.f (.glob (.ref ad)), H)) (h2 : T.fns ad = some f) (h3 : exVs R sc ρ args H = some (ds, H1)) (h4 : callFn R f ds H1 = some r) :
    stepEx T R sc (.Call (.Name nm np) args [] pos) ρ H = some r := by
  refine bd h1 (bd h3 ?_)
  show callA T R ad ds H1 = _
  unfold callA
  rw [h2]; exact h4
theorem EcallB {nm : Str} {np pos : Pos} {args : List Expr} {bn : String} {ds : List D} {r : D} (h1 : R.ex sc (.Name nm np) ρ H = some (.f (.glob (.builtin bn)), H)) (h3 : exVs R sc ρ args H = some (ds, H1)) (h4 : callB bn ds H1 = some r) :
    stepEx T R sc (.Call (.Name nm np) args [] pos) ρ H = some (r, H1) := bd h1 (bd h3 (md h4))
theorem EcallT {nm : Str} {np pos : Pos} {args : List Expr} {bn : String} {ds : List D} {r : F} (h1 : R.ex sc (.Name nm np) ρ H = some (.f (.glob (.type bn)), H)) (h3 : exVs R sc ρ args H = some (ds, H1)) (h4 : callT bn ds H1 = some r) :
    stepEx T R sc (.Call (.Name nm np) args [] pos) ρ H = some (.f r, H1) := bd h1 (bd h3 (md h4))
/-- a method of a made object -/
theorem Emeth {o : Expr} {m : Str} {apos pos : Pos} {args : List Expr} {c : Addr} {cl : Cl} {fs : List (Str × D)} {f : Fn} {ds : List D} {r : D × Hp}
    (ho : isCN o = false) (h0 : (!(apos.endLine == pos.line) || !decide (args.length < 30)) = false)
    (h1 : R.ex sc o ρ H = some (d, H1)) (h2 : asIns d H1 = some (c, fs)) (h3 : (fs.any fun e => e.1 == m) = false) (h4 : T.cls c = some cl) (h5 : cl.meths.lookup m = some f) (h6 : exVs R sc ρ args H1 = some (ds, H2)) (h7 : callFn R f (d :: ds) H2 = some r) :
    stepEx T R sc (.Call (.Attribute o m apos) args [] pos) ρ H = some r := by
  show (if isCN o || !(apos.endLine == pos.line) || !decide (args.length < 30) then none else methE T R sc o m args ρ H) = _
  rw [Bool.or_assoc, ho, h0]
  refine bd h1 ?_
  dsimp only
  rw [h2]
  dsimp only
  rw [h3]
  exact bd h4 (bd h5 (bd h6 h7))
/-- a method of a list or dict -/
theorem EmethL {o : Expr} {m : Str} {apos pos : Pos} {args : List Expr} {ds : List D} {r : D × Hp}
    (ho : isCN o = false) (h0 : (!(apos.endLine == pos.line) || !decide (args.length < 30)) = false)
    (h1 : R.ex sc o ρ H = some (d, H1)) (h2 : asIns d H1 = none) (h3 : recvOk d m H1 = true) (h6 : (if m = "append" then exs R sc ρ args H1 else exVs R sc ρ args H1) = some (ds, H2)) (h7 : meth d m ds H2 = some r) :
    stepEx T R sc (.Call (.Attribute o m apos) args [] pos) ρ H = some r := by
  show (if isCN o || !(apos.endLine == pos.line) || !decide (args.length < 30) then none else methE T R sc o m args ρ H) = _
  rw [Bool.or_assoc, ho, h0]
  refine bd h1 ?_
  dsimp only
  rw [h2]
  dsimp only
  rw [h3]
  exact bd h6 h7
theorem cmpE {l e : Expr} {op : CmpOp} {t : Bool} (h0 : lastMarks [op] [e] = false) (h1 : exV R sc l ρ H = some (a, H1)) (h2 : exV R sc e ρ H1 = some (b, H2)) (h3 : cmp op a b H2 = some t) : chainE R sc l [op] [e] ρ H = some (t, H2) := by
  unfold chainE
  rw [h0]
  exact bd h1 (bd h2 (bd h3 rfl))
theorem Ecmp {l e : Expr} {op : CmpOp} {p : Pos} {t : Bool} (h0 : lastMarks [op] [e] = false) (h1 : exV R sc l ρ H = some (a, H1)) (h2 : exV R sc e ρ H1 = some (b, H2)) (h3 : cmp op a b H2 = some t) : stepEx T R sc (.Compare l [op] [e] p) ρ H = some (.f (.bool t), H2) := md (cmpE h0 h1 h2 h3)
theorem Tcmp {l e : Expr} {op : CmpOp} {p : Pos} {t : Bool} (h0 : lastMarks [op] [e] = false) (h1 : exV R sc l ρ H = some (a, H1)) (h2 : exV R sc e ρ H1 = some (b, H2)) (h3 : cmp op a b H2 = some t) : stepTs R sc (.Compare l [op] [e] p) ρ H = some (t, H2) := cmpE h0 h1 h2 h3
theorem Tnot {x : Expr} {p : Pos} {t : Bool} (h : R.ts sc x ρ H = some (t, H1)) : stepTs R sc (.UnaryOp .Not x p) ρ H = some (!t, H1) := md h
theorem TandT {e : Expr} {r : List Expr} {x : Option (Bool × Hp)} (h : R.ts sc e ρ H = some (true, H1)) (k : boolT R sc ρ .And r H1 = x) : boolT R sc ρ .And (e :: r) H = x := bd h k
theorem TandF {e : Expr} {r : List Expr} (h : R.ts sc e ρ H = some (false, H1)) : boolT R sc ρ .And (e :: r) H = some (false, H1) := bd h rfl
theorem TorT {e : Expr} {r : List Expr} (h : R.ts sc e ρ H = some (true, H1)) : boolT R sc ρ .Or (e :: r) H = some (true, H1) := bd h rfl
theorem TorF {e : Expr} {r : List Expr} {x : Option (Bool × Hp)} (h : R.ts sc e ρ H = some (false, H1)) (k : boolT R sc ρ .Or r H1 = x) : boolT R sc ρ .Or (e :: r) H = x := bd h k
theorem EifT {c x y : Expr} {p : Pos} {r : Option (D × Hp)} (h : R.ts sc c ρ H = some (true, H1)) (k : R.ex sc x ρ H1 = r) : stepEx T R sc (.IfExp c x y p) ρ H = r := bd h k
theorem EifF {c x y : Expr} {p : Pos} {r : Option (D × Hp)} (h : R.ts sc c ρ H = some (false, H1)) (k : R.ex sc y ρ H1 = r) : stepEx T R sc (.IfExp c x y p) ρ H = r := bd h k
theorem Ecomp {elt tgt it : Expr} {ifs : List Expr} {scope : Scope} {ds : List D} {fs : List F} (h0 : (!scopeOk sc scope || isSet it || !tgtOk tgt it) = false) (h1 : iters R sc it ρ H = some (ds, H1)) (hl : ds.length ≤ lim)
    (h2 : compL R scope.names elt tgt ifs (ρ.filter fun e => scope.names.lookup e.1 == some .free) ds H1 = some (fs, H2)) : compE R sc elt tgt it ifs scope ρ H = some (.f (.lst fs), H2) := by
  unfold compE
  rw [h0]
  refine bd h1 ?_
  dsimp only
  rw [if_neg (Nat.not_lt.mpr hl)]
  exact md h2

/-! statements -/
theorem Scons {s : Stmt} {r : List Stmt} {x : Option (Fl × Rho × Hp)} (h : step1 T R sc s ρ H = some (.next, ρ1, H1)) (k : stepSt T R sc r ρ1 H1 = x) : stepSt T R sc (s :: r) ρ H = x := bd h k
theorem Sret {s : Stmt} {r : List Stmt} (h : step1 T R sc s ρ H = some (.ret d, ρ1, H1)) : stepSt T R sc (s :: r) ρ H = some (.ret d, ρ1, H1) := bd h rfl
theorem Snil : stepSt T R sc [] ρ H = some (.next, ρ, H) := rfl
theorem Sreturn {e : Expr} {p : Pos} (h : exV R sc e ρ H = some (d, H1)) : step1 T R sc (.Return (some e) p) ρ H = some (.ret d, ρ, H1) := md h
theorem Sasg {t v : Expr} {p : Pos} (h0 : swapOk t v = true) (h1 : exA R sc t v ρ H = some (d, H1)) (h2 : assignD T R sc t d ρ H1 = some (ρ2, H2)) : step1 T R sc (.Assign [t] v p) ρ H = some (.next, ρ2, H2) := by
  unfold step1
  refine bd (a := t) rfl ?_
  rw [h0]
  exact bd h1 (md h2)
theorem Sexpr {e : Expr} {p : Pos} (h0 : isCall e = true) (h1 : R.ex sc e ρ H = some (.f .none, H1)) : step1 T R sc (.Expr e p) ρ H = some (.next, ρ, H1) := by
  unfold step1
  dsimp only
  rw [h0]
  exact bd h1 rfl
theorem SifT {c : Expr} {x y : List Stmt} {p : Pos} {r : Option (Fl × Rho × Hp)} (h : R.ts sc c ρ H = some (true, H1)) (k : R.st sc x ρ H1 = r) : step1 T R sc (.If c x y p) ρ H = r := bd h k
theorem SifF {c : Expr} {x y : List Stmt} {p : Pos} {r : Option (Fl × Rho × Hp)} (h : R.ts sc c ρ H = some (false, H1)) (k : R.st sc y ρ H1 = r) : step1 T R sc (.If c x y p) ρ H = r := bd h k
theorem Sfor {t it : Expr} {body : List Stmt} {p : Pos} {ds : List D} {r : Option (Fl × Rho × Hp)} (h0 : (isSet it || !tgtOk t it) = false) (h1 : iters R sc it ρ H = some (ds, H1)) (k : forL R sc t body ds ρ H1 = r) : step1 T R sc (.For t it body [] p) ρ H = r := by
  show (if isSet it || !tgtOk t it then none else (iters R sc it ρ H).bind fun x => forL R sc t body x.1 ρ x.2) = _
  rw [h0]
  exact bd h1 k
theorem FN {t : Expr} {body : List Stmt} : forL R sc t body [] ρ H = some (.next, ρ, H) := rfl
theorem FC {t : Expr} {body : List Stmt} {r : List D} {x : Option (Fl × Rho × Hp)} (h1 : bindT sc 4 t d ρ = some ρ1) (h2 : R.st sc body ρ1 H = some (.next, ρ2, H2)) (k : forL R sc t body r ρ2 H2 = x) : forL R sc t body (d :: r) ρ H = x := bd h1 (bd h2 k)
theorem WT {c : Expr} {body : List Stmt} {x : Option (Fl × Rho × Hp)} (h1 : R.ts sc c ρ H = some (true, H1)) (h2 : R.st sc body ρ H1 = some (.next, ρ2, H2)) (k : whileL R sc c body n ρ2 H2 = x) : whileL R sc c body (n + 1) ρ H = x := bd h1 (bd h2 k)
theorem WF {c : Expr} {body : List Stmt} (h1 : R.ts sc c ρ H = some (false, H1)) : whileL R sc c body (n + 1) ρ H = some (.next, ρ, H1) := bd h1 rfl
/-- a def that leaves nothing behind -/
theorem Fpure {f : Fn} {ds : List D} {fs : List F} {v : F} (h0 : (f.addr == 115) = false) (hp : f.pure = true) (h1 : fzs (fz fuelFz) ds H = some (fs, H1)) (h2 : bindP f (dF fs) = some ρ) (h3 : R.st f.text.2.2.names f.text.2.1 ρ [] = some (.ret d, ρ1, H2)) (h4 : fz fuelFz d H2 = some (v, H3)) :
    callFn R f ds H = some (.f v, H1) := by
  unfold callFn
  rw [if_neg (by simpa using h0), hp]
  exact bd h1 (bd h2 (bd h3 (bd (a := d) rfl (md h4))))

/-! comprehensions -/
theorem compMap {names : Sc} {elt tgt : Expr} {ρ : Rho} (g : D → Option F) (ds : List D) : (∀ d ∈ ds, ∃ ρ' H', True ∧ bindT names 4 tgt d ρ = some ρ' ∧ ∃ x v, R.ex names elt ρ' H = some (x, H) ∧ fz fuelFz x H = some (v, H) ∧ g d = some v ∧ H' = H) →
    compL R names elt tgt [] ρ ds H = some (ds.filterMap g, H) := by
  induction ds with
  | nil => exact fun _ => rfl
  | cons d r ih =>
    intro h
    obtain ⟨ρ', _, _, h1, x, v, h2, h3, h4, _⟩ := h d (.head _)
    rw [List.filterMap_cons_some h4]
    exact bd h1 (bd (a := (true, H)) rfl (bd h2 (bd h3 (md (ih fun d m => h d (.tail _ m))))))
end
end Mine

end
noncomputable section
set_option Elab.async false
set_option maxRecDepth 100000
set_option linter.unusedVariables false
/-! rules for what leaves the heap as it is -/
open PySem PySem.W
namespace Mine
noncomputable def notSl (e : Expr) : Bool := (sliceE e).isNone
noncomputable def plainTs : Expr → Bool
  | .UnaryOp .Not .. => false
  | .BoolOp .. => false
  | .IfExp .. => false
  | .Compare .. => false
  | _ => true
noncomputable abbrev fI (i : Int) : D := .f (.int i)
noncomputable abbrev fB (b : Bool) : D := .f (.bool b)
noncomputable abbrev iF (l : List Int) : F := .lst (l.map .int)
noncomputable abbrev X (n : Nat) (sc : Sc) (ρ : Rho) (H : Hp) (e : Expr) (d : D) : Prop := (ev T n).ex sc e ρ H = some (d, H)
noncomputable abbrev V (n : Nat) (sc : Sc) (ρ : Rho) (H : Hp) (e : Expr) (d : D) : Prop := exV (ev T n) sc e ρ H = some (d, H)
noncomputable abbrev B (n : Nat) (sc : Sc) (ρ : Rho) (H : Hp) (e : Expr) (t : Bool) : Prop := (ev T n).ts sc e ρ H = some (t, H)
/-- a statement, and a list of them -/
noncomputable abbrev St1 (n : Nat) (sc : Sc) (ρ : Rho) (H : Hp) (s : Stmt) (fl : Fl) (ρ' : Rho) (H' : Hp) : Prop := step1 T (ev T n) sc s ρ H = some (fl, ρ', H')
noncomputable abbrev Sts (n : Nat) (sc : Sc) (ρ : Rho) (H : Hp) (l : List Stmt) (fl : Fl) (ρ' : Rho) (H' : Hp) : Prop := stepSt T (ev T n) sc l ρ H = some (fl, ρ', H')
section
variable {n : Nat} {sc : Sc} {ρ ρ' : Rho} {H H' : Hp} {a b d : D} {e l r : Expr} {p pos : Pos}
theorem X.s (h : stepEx T (ev T n) sc e ρ H = some (d, H)) : X (n + 1) sc ρ H e d := h
theorem X2.s {x : Option (D × Hp)} (h : stepEx T (ev T n) sc e ρ H = x) : (ev T (n + 1)).ex sc e ρ H = x := h
theorem B.s {t : Bool} (h : stepTs (ev T n) sc e ρ H = some (t, H)) : B (n + 1) sc ρ H e t := h
theorem X.nm {x : Str} (h2 : var T sc ρ x = some d) (h1 : nameOk x = true) : X (n + 1) sc ρ H (.Name x p) d := X.s (Ename h1 h2)
theorem X.int {i : Int} {k : _} : X (n + 1) sc ρ H (.Constant (.int i) k p) (fI i) := rfl
theorem V.of (h : X n sc ρ H e d) (he : notList e = true) : V n sc ρ H e d := xV he h
theorem V.nm {x : Str} (h2 : var T sc ρ x = some d) (h1 : nameOk x = true) : V (n + 1) sc ρ H (.Name x p) d := xV (R := ev T (n + 1)) rfl (Ename (R := ev T n) (p := p) h1 h2)
theorem V.int {i : Int} {k : _} : V (n + 1) sc ρ H (.Constant (.int i) k p) (fI i) := rfl
theorem X.bin {op : Operator} (h1 : V n sc ρ H l a) (h2 : V n sc ρ H r b) (h3 : bin op a b H = some d) : X (n + 1) sc ρ H (.BinOp l op r p) d := X.s (Ebin h1 h2 h3)
theorem X.idx {i : Expr} (h1 : V n sc ρ H l a) (h2 : X n sc ρ H i b) (h3 : getI a b H = some d) (hi : notSl i = true) : X (n + 1) sc ρ H (.Subscript l i p) d := X.s (Eidx (Option.isNone_iff_eq_none.mp hi) h1 h2 h3)
theorem X.len {np : Pos} {ds : List D} {m : Nat} (h0 : var T sc ρ "len" = some (.f (.glob (.builtin "len")))) (h1 : V (n + 1) sc ρ H e d) (h2 : asLst d H = some ds) (hm : ds.length = m) (h3 : m ≤ lim) (hs : isStar e = false) : X (n + 2) sc ρ H (.Call (.Name "len" np) [e] [] pos) (fI m) := by
  subst hm
  refine X.s (EcallB (bn := "len") (X.nm h0 (by decide)) (xvC hs h1 xvN) ?_)
  show ((seqOf d H).bind fun l => if l.length ≤ lim then some (fI l.length) else none) = _
  unfold seqOf
  rw [h2]; exact if_pos h3
theorem B.cmp {op : CmpOp} {t : Bool} (h1 : V n sc ρ H l a) (h2 : V n sc ρ H r b) (h3 : cmp op a b H = some t) (h0 : lastMarks [op] [r] = false) : B (n + 1) sc ρ H (.Compare l [op] [r] p) t := B.s (Tcmp h0 h1 h2 h3)
theorem B.not {t : Bool} (h : B n sc ρ H e t) : B (n + 1) sc ρ H (.UnaryOp .Not e p) (!t) := B.s (Tnot h)
theorem B.val {t : Bool} (h : X n sc ρ H e d) (ht : truthy d = some t) (hp : plainTs e = true) : B (n + 1) sc ρ H e t := by
  have : (ev T (n + 1)).ts sc e ρ H = plainT (ev T n) sc e ρ H := by
    cases e <;> first | rfl | (cases hp; done) | skip
    rename_i op x q
    cases op <;> first | rfl | cases hp
  exact this.trans (bd h (md ht))
theorem B.andT {e2 : Expr} {t : Bool} (h1 : B n sc ρ H e true) (h2 : B n sc ρ H e2 t) : B (n + 1) sc ρ H (.BoolOp .And [e, e2] p) t := by
  refine B.s (e := .BoolOp .And [e, e2] p) ?_
  refine TandT h1 ?_
  cases t
  · exact TandF h2
  · exact TandT h2 rfl
theorem B.andF {es : List Expr} (h1 : B n sc ρ H e false) : B (n + 1) sc ρ H (.BoolOp .And (e :: es) p) false := B.s (e := .BoolOp .And (e :: es) p) (TandF (R := ev T n) h1)
theorem B.orT {es : List Expr} (h1 : B n sc ρ H e true) : B (n + 1) sc ρ H (.BoolOp .Or (e :: es) p) true := B.s (e := .BoolOp .Or (e :: es) p) (TorT (R := ev T n) h1)
theorem B.orF {e2 : Expr} {t : Bool} (h1 : B n sc ρ H e false) (h2 : B n sc ρ H e2 t) : B (n + 1) sc ρ H (.BoolOp .Or [e, e2] p) t := by
  refine B.s (e := .BoolOp .Or [e, e2] p) ?_
  refine TorF h1 ?_
  cases t
  · exact TorF h2 rfl
  · exact TorT h2
theorem ownL_at {k : Nat} {ds : List D} (h : H[k]? = some (.lst ds)) : ownL (.own k) H = some (k, ds) := by
  show (H[k]?.bind oLst).map _ = _
  rw [h]; rfl
/-- a method of a list of the call's own -/
theorem St1.methH {x m : Str} {k : Nat} {l0 ds as y : List D} {H1 : Hp} {args : List Expr} {p1 p2 p3 p4 : Pos} (hx : var T sc ρ x = some (.own k)) (hk0 : H[k]? = some (.lst l0)) (hk : H1[k]? = some (.lst ds)) (ha : (if m = "append" then exs (ev T (n + 1)) sc ρ args H else exVs (ev T (n + 1)) sc ρ args H) = some (as, H1)) (hm : isLM m = true) (hy : methL m ds as H1 = some (.f .none, y)) (hl : ds.length ≤ lim) (hn : nameOk x = true)
    (h0 : (!(p2.endLine == p3.line) || !decide (args.length < 30)) = false) : St1 (n + 2) sc ρ H (.Expr (.Call (.Attribute (.Name x p1) m p2) args [] p3) p4) .next ρ (H1.set k (.lst y)) := by
  refine Sexpr rfl (X2.s (EmethL rfl h0 (X.nm hx hn) ?_ ?_ ha ?_))
  · show H[k]?.bind oIns = none
    rw [hk0]; rfl
  · unfold recvOk
    rw [ownL_at hk0]; exact hm
  · unfold meth
    rw [ownL_at hk]
    exact (if_pos hl).trans (md hy)
/-- x.append(e) -/
theorem St1.append {x : Str} {k : Nat} {ds : List D} {p1 p2 p3 p4 : Pos} (hx : var T sc ρ x = some (.own k)) (hk : H[k]? = some (.lst ds)) (he : X (n + 1) sc ρ H e d) (hl : ds.length ≤ lim) (hn : nameOk x = true) (hs : isStar e = false) (h0 : (!(p2.endLine == p3.line) || !decide (1 < 30)) = false) :
    St1 (n + 2) sc ρ H (.Expr (.Call (.Attribute (.Name x p1) "append" p2) [e] [] p3) p4) .next ρ (H.set k (.lst (ds ++ [d]))) :=
  St1.methH hx hk hk ((if_pos rfl).trans (xsC hs he xsN)) rfl rfl hl hn h0
theorem Sts.cons {s : Stmt} {q : List Stmt} {fl : Fl} {ρ2 : Rho} {H2 : Hp} (h : St1 n sc ρ H s .next ρ' H') (k : Sts n sc ρ' H' q fl ρ2 H2) : Sts n sc ρ H (s :: q) fl ρ2 H2 := Scons h k
theorem Sts.ret {s : Stmt} {q : List Stmt} (h : St1 n sc ρ H s (.ret d) ρ' H') : Sts n sc ρ H (s :: q) (.ret d) ρ' H' := Sret h
theorem Sts.nil : Sts n sc ρ H [] .next ρ H := rfl
theorem St1.wh {c : Expr} {body : List Stmt} {fl : Fl} (k : whileL (ev T n) sc c body (199 + 1) ρ H = some (fl, ρ', H')) : St1 n sc ρ H (.While c body [] p) fl ρ' H' := k
theorem St1.ifT {x y : List Stmt} {fl : Fl} (h : B n sc ρ H e true) (k : (ev T n).st sc x ρ H = some (fl, ρ', H')) : St1 n sc ρ H (.If e x y p) fl ρ' H' := SifT h k
theorem St1.ifF {x y : List Stmt} {fl : Fl} (h : B n sc ρ H e false) (k : (ev T n).st sc y ρ H = some (fl, ρ', H')) : St1 n sc ρ H (.If e x y p) fl ρ' H' := SifF h k
theorem St1.ret (h : V n sc ρ H e d) : St1 n sc ρ H (.Return (some e) p) (.ret d) ρ H := Sreturn h
end
theorem getI_sq {l : List D} {d : D} {H : Hp} {i : Nat} {x : D} (hl : seqOf d H = some l) (hi : l[i]? = some x) (hm : l.length ≤ lim) : getI d (fI i) H = some x := by
  unfold getI
  rw [hl]
  show (idx i l.length).bind _ = _
  unfold idx
  rw [if_neg (Nat.not_lt.mpr hm), if_pos (Int.natCast_nonneg i), if_pos (Int.ofNat_lt.mpr (List.getElem?_eq_some_iff.mp hi).1)]
  exact hi
theorem getI_at {l : List D} {d : D} {H : Hp} {i : Nat} {x : D} (hl : asLst d H = some l) (hi : l[i]? = some x) (hm : l.length ≤ lim) : getI d (fI i) H = some x := getI_sq (by unfold seqOf; rw [hl]) hi hm
theorem le_lim {m k : Nat} (h : m ≤ k) (hk : k ≤ lim := by decide) : m ≤ lim := Nat.le_trans h hk
theorem lt_lim {m k : Nat} (h : m < k) (hk : k ≤ lim := by decide) : m ≤ lim := Nat.le_trans (Nat.le_of_lt h) hk
theorem lmap {α β : Type} {f : α → β} {l : List α} {k : Nat} (h : l.length ≤ k) (hk : k ≤ lim := by decide) : (l.map f).length ≤ lim := by rw [List.length_map]; exact Nat.le_trans h hk
theorem lstOf_f {fs : List F} {H : Hp} (h : fs.length ≤ lim) : lstOf (.f (.lst fs)) H = some (fs, H) := md (x := limL fs) (if_pos h)
theorem mulC {x : F} {k : Nat} {H : Hp} (h : k ≤ lim) : bin .Mult (.f (.lst [x])) (fI k) H = some (.f (.lst (List.replicate k x))) := by
  show ((if (0 ≤ (k : Int) && decide ((k : Int) ≤ (lim : Nat))) = true then some (List.replicate (k : Int).toNat x) else none).map fun l => D.f (.lst l)) = _
  rw [decide_eq_true (Int.natCast_nonneg k), decide_eq_true (Int.ofNat_le.mpr h)]; rfl
theorem addC {a b : List F} {H : Hp} (h : a.length + b.length ≤ lim) : bin .Add (.f (.lst a)) (.f (.lst b)) H = some (.f (.lst (a ++ b))) := md (f := fun l => D.f (.lst l)) (if_pos h)
theorem rngI {r : Int} {H : Hp} (h : r.natAbs ≤ lim) : itemsOf (.f (.rng 0 r)) H = some (rngL 0 r, H) := md (f := fun l => (l, H)) (if_pos (by rw [decide_eq_true h]; rfl))
theorem neNil {a : D} {l : List D} {H : Hp} (h : asLst a H = some l) : cmp .NotEq a (.f (.lst [])) H = some !l.isEmpty := md (f := fun b => !b) (md (f := fun l : List D => l.isEmpty) h)
theorem ltB {i m : Nat} {H : Hp} (t : Bool) (h : decide (i < m) = t) : cmp .Lt (fI i) (fI m) H = some t := by
  show some (decide ((i : Int) < (m : Int))) = some t
  rw [← h]; congr 1; exact decide_eq_decide.mpr Int.ofNat_lt
end Mine

end
noncomputable section
set_option Elab.async false
set_option maxRecDepth 100000
set_option linter.unusedVariables false
/-! the finding of elements -/
open PySem PySem.W
namespace Mine
noncomputable def fls (m : Nat) : F := .lst (List.replicate m (.bool false))
theorem fls_lst (m : Nat) (H : Hp) : asLst (.f (fls m)) H = some (List.replicate m (fB false)) := by show some (List.map D.f _) = _; rw [List.map_replicate]
theorem c_live (n m i : Nat) (hi : i < m) (hm : m ≤ 100) (H : Hp) : callFn (ev T (n + 12)) f_coll_live [.f (fls m), fI i, fI 1] H = some (.f (.lst [.int i]), H) := by
  have hlim : lim = 100000 := rfl
  refine Fpure rfl rfl (fs := [fls m, .int i, .int 1]) rfl (ρ := [("gone", .f (fls m)), ("at", fI i), ("most", fI 1)]) rfl (d := .own 0) (ρ1 := [("at", fI (i + 1)), ("found", .own 0), ("gone", .f (fls m)), ("most", fI 1)]) (H2 := [.lst [fI i]]) ?_ rfl
  show Sts (n + 11) (fnT 74).2.2.names [("gone", .f (fls m)), ("at", fI i), ("most", fI 1)] [] (fnT 74).2.1 (.ret (.own 0)) [("at", fI (i + 1)), ("found", .own 0), ("gone", .f (fls m)), ("most", fI 1)] [.lst [fI i]]
  refine Sts.cons (ρ' := [("found", .own 0), ("gone", .f (fls m)), ("at", fI i), ("most", fI 1)]) (H' := [.lst []]) (by kernel_rfl) ?_
  refine Sts.cons (ρ' := [("at", fI (i + 1)), ("found", .own 0), ("gone", .f (fls m)), ("most", fI 1)]) (H' := [.lst [fI i]]) (St1.wh ?_) (Sts.ret (by kernel_rfl))
  have gl : (List.replicate m (fB false)).length ≤ lim := by rw [List.length_replicate]; omega
  refine WT (ρ2 := [("at", fI (i + 1)), ("found", .own 0), ("gone", .f (fls m)), ("most", fI 1)]) (H1 := [.lst []]) (H2 := [.lst [fI i]]) ?_ ?_ ?_
  · refine B.andT (B.cmp (V.nm (d := fI i) (by kernel_rfl) (by decide)) (V.of (X.len (by kernel_rfl) (V.nm (d := .f (fls m)) (by kernel_rfl) (by decide)) (fls_lst m _) (List.length_replicate ..) (by first | exact le_lim (by assumption) | omega) (by rfl)) rfl) (ltB true ?_) (by rfl)) (by kernel_rfl)
    simpa using hi
  · refine Sts.cons (ρ' := [("found", .own 0), ("gone", .f (fls m)), ("at", fI i), ("most", fI 1)]) (H' := [.lst [fI i]]) (St1.ifT (B.not (t := false) (B.val (d := fB false) (X.idx (a := .f (fls m)) (b := fI i) (V.nm (by kernel_rfl) (by decide)) (X.nm (by kernel_rfl) (by decide)) (getI_at (fls_lst m _) ?_ gl) (by rfl)) rfl (by rfl))) (by kernel_rfl)) (by kernel_rfl)
    rw [List.getElem?_replicate, if_pos hi]
  · by_cases h : i + 1 < m
    · refine WF (n := 198) (B.andT (B.cmp (V.nm (d := fI (i + 1)) (by kernel_rfl) (by decide)) (V.of (X.len (by kernel_rfl) (V.nm (d := .f (fls m)) (by kernel_rfl) (by decide)) (fls_lst m _) (List.length_replicate ..) (by first | exact le_lim (by assumption) | omega) (by rfl)) rfl) (ltB (i := i + 1) true ?_) (by rfl)) (by kernel_rfl))
      simpa using h
    · refine WF (n := 198) (B.andF (B.cmp (V.nm (d := fI (i + 1)) (by kernel_rfl) (by decide)) (V.of (X.len (by kernel_rfl) (V.nm (d := .f (fls m)) (by kernel_rfl) (by decide)) (fls_lst m _) (List.length_replicate ..) (by first | exact le_lim (by assumption) | omega) (by rfl)) rfl) (ltB (i := i + 1) false ?_) (by rfl)))
      simpa using h
end Mine

end
noncomputable section
set_option Elab.async false
set_option maxRecDepth 100000
set_option linter.unusedVariables false
/-! the finding of elements, 2 -/
open PySem PySem.W
namespace Mine
noncomputable def plainV : Expr → Bool
  | .BinOp .. => false
  | .ListComp .. => false
  | _ => true
section
variable {n : Nat} {sc : Sc} {ρ ρ' ρ2 : Rho} {H H' H1 H2 : Hp} {a b d : D} {e l r : Expr} {p p' pos : Pos}
theorem exA_plain {R : Rec} {t v : Expr} (h : plainV v = true) : exA R sc t v ρ H = R.ex sc v ρ H := by
  have : exN R sc v ρ H = R.ex sc v ρ H := by cases v <;> first | rfl | cases h
  unfold exA
  rw [this]
  exact ite_self _
theorem St1.asg {x : Str} {v : Expr} (hv : (ev T n).ex sc v ρ H = some (d, H1)) (h2 : putV sc ρ x d = some ρ') (hk : plainV v = true) (h0 : swapOk (.Name x p') v = true) : St1 n sc ρ H (.Assign [.Name x p'] v p) .next ρ' H1 := by
  refine Sasg h0 ((exA_plain hk).trans hv) ?_
  show (bindT sc 4 (.Name x p') d ρ).map (fun ρ' => (ρ', H1)) = _
  exact md h2
theorem St1.asgC {x : Str} {elt tgt it : Expr} {ifs : List Expr} {scope : Scope} {q : Pos} (hv : compE (ev T n) sc elt tgt it ifs scope ρ H = some (d, H1)) (h2 : putV sc ρ x d = some ρ') (h0 : swapOk (.Name x p') (.ListComp elt [⟨tgt, it, ifs, 0⟩] scope q) = true) : St1 n sc ρ H (.Assign [.Name x p'] (.ListComp elt [⟨tgt, it, ifs, 0⟩] scope q) p) .next ρ' H1 := by
  refine Sasg h0 hv ?_
  show (bindT sc 4 (.Name x p') d ρ).map (fun ρ' => (ρ', H1)) = _
  exact md h2
theorem St1.asgT {es : List Expr} {k : _} {v : Expr} (hv : (ev T n).ex sc v ρ H = some (d, H1)) (h2 : bindT sc 4 (.Tuple es k p') d ρ = some ρ') (h0 : swapOk (.Tuple es k p') v = true) (hk : plainV v = true) : St1 n sc ρ H (.Assign [.Tuple es k p'] v p) .next ρ' H1 := by
  refine Sasg h0 ((exA_plain hk).trans hv) ?_
  show (bindT sc 4 (.Tuple es k p') d ρ).map (fun ρ' => (ρ', H1)) = _
  exact md h2
theorem X.comp {elt tgt it : Expr} {ifs : List Expr} {scope : Scope} (h : compE (ev T n) sc elt tgt it ifs scope ρ H = some (d, H1)) : (ev T (n + 1)).ex sc (.ListComp elt [⟨tgt, it, ifs, 0⟩] scope p) ρ H = some (d, H1) := h
theorem WB {R : Rec} {c : Expr} {body : List Stmt} (h1 : R.ts sc c ρ H = some (true, H1)) (h2 : R.st sc body ρ H1 = some (.brk, ρ2, H2)) : whileL R sc c body (n + 1) ρ H = some (.next, ρ2, H2) := bd h1 (bd h2 rfl)
/-- a comprehension without tests, part by part -/
theorem comp_map {R : Rec} {elt tgt : Expr} {α : Type} (f : α → D) (g : α → F) (ok : α → Prop) (h : ∀ x, ok x → ∃ ρ' v, bindT sc 4 tgt (f x) ρ = some ρ' ∧ R.ex sc elt ρ' H = some (v, H) ∧ fz fuelFz v H = some (g x, H)) :
    ∀ (xs : List α), (∀ x ∈ xs, ok x) → compL R sc elt tgt [] ρ (xs.map f) H = some (xs.map g, H)
  | [], _ => rfl
  | x :: xs, hx => by
    obtain ⟨ρ', v, h1, h2, h3⟩ := h x (hx x (.head _))
    unfold compL
    rw [List.map_cons]
    exact bd h1 (bd (a := (true, H)) rfl (bd h2 (bd h3 (md (comp_map f g ok h xs fun y m => hx y (.tail _ m))))))
/-- with one test that lets all through -/
theorem comp_all {R : Rec} {elt tgt t : Expr} {α : Type} (f : α → D) (g : α → F) (ok : α → Prop) (h : ∀ x, ok x → ∃ ρ' v, bindT sc 4 tgt (f x) ρ = some ρ' ∧ R.ts sc t ρ' H = some (true, H) ∧ R.ex sc elt ρ' H = some (v, H) ∧ fz fuelFz v H = some (g x, H)) :
    ∀ (xs : List α), (∀ x ∈ xs, ok x) → compL R sc elt tgt [t] ρ (xs.map f) H = some (xs.map g, H)
  | [], _ => rfl
  | x :: xs, hx => by
    obtain ⟨ρ', v, h1, h0, h2, h3⟩ := h x (hx x (.head _))
    unfold compL
    rw [List.map_cons]
    exact bd h1 (bd (a := (true, H)) (bd h0 rfl) (bd h2 (bd h3 (md (comp_all f g ok h xs fun y m => hx y (.tail _ m))))))
/-- what a name's list gives to a loop -/
theorem it_nm {x : Str} {fs : List F} (h : var T sc ρ x = some (.f (.lst fs))) (hl : fs.length ≤ lim) (h1 : nameOk x = true) : iters (ev T (n + 1)) sc (.Name x p) ρ H = some (fs.map .f, H) := by
  show (exV (ev T (n + 1)) sc (.Name x p) ρ H).bind (fun x => itemsOf x.1 x.2) = _
  refine bd (V.nm h h1) ?_
  exact md (f := fun x : List F × Hp => (dF x.1, x.2)) (a := (fs, H)) (md (f := fun fs => (fs, H)) (x := limL fs) (if_pos hl))
theorem iF_lst (cs : List Int) (H : Hp) : asLst (.f (iF cs)) H = some (cs.map fI) := by show some (List.map D.f _) = _; rw [List.map_map]; rfl
end
theorem Fp {n : Nat} {H H1 H2 H3 : Hp} {ρ : Rho} {d : D} {f : Fn} {ds : List D} {fs : List F} {v : F} (h0 : (f.addr == 115) = false) (hp : f.pure = true) (h1 : fzs (fz fuelFz) ds H = some (fs, H1)) (h2 : bindP f (dF fs) = some ρ)
    (h3 : ∃ ρ1, Sts n f.text.2.2.names ρ [] f.text.2.1 (.ret d) ρ1 H2) (h4 : fz fuelFz d H2 = some (v, H3)) : callFn (ev T (n + 1)) f ds H = some (.f v, H1) := let ⟨_, h3⟩ := h3; Fpure h0 hp h1 h2 h3 h4
theorem c_ccc (n : Nat) (c : Int) (H : Hp) : callFn (ev T (n + 12)) f_Data_get [.f datF, .f (.str "ccc"), fI c] H = some (fI 0, H) := by kernel_rfl
theorem c_dm (n : Nat) (c : Int) (H : Hp) : callFn (ev T (n + 12)) f_Data_get [.f datF, .f (.str "dm"), fI c] H = some (.f .none, H) := by kernel_rfl
theorem c_marks (n i : Nat) (cs : List Int) (c : Int) (hc : cs[i]? = some c) (hm : cs.length ≤ 100) (H : Hp) : callFn (ev T (n + 20)) f_Elements_with_marks [.f tblF, .f (iF cs), .f (.lst [.int i]), .f (fls cs.length), .f datF] H = some (.f (.tup [.int c]), H) := by
  have hlim : lim = 100000 := rfl
  have hi := (List.getElem?_eq_some_iff.mp hc).1
  have cl : (cs.map fI).length ≤ lim := by rw [List.length_map]; omega
  have hg : (cs.map fI)[i]? = some (fI c) := by rw [List.getElem?_map, hc]; rfl
  refine Fp (n := n + 19) rfl rfl (fs := [tblF, iF cs, .lst [.int i], fls cs.length, datF]) rfl (ρ := [("self", .f tblF), ("codes", .f (iF cs)), ("places", .f (.lst [.int i])), ("gone", .f (fls cs.length)), ("data", .f datF)]) rfl (d := .f (.tup [.int c])) (H2 := []) ?_ rfl
  suffices h : ∃ ρ1, Sts (n + 19) (fnM 73 11).2.2.names [("stays", fI 0), ("at", fI (i + 1)), ("key", .f (.tup [.int c])), ("self", .f tblF), ("codes", .f (iF cs)), ("places", .f (.lst [.int i])), ("gone", .f (fls cs.length)), ("data", .f datF)] [] ((fnM 73 11).2.1.drop 2) (.ret (.f (.tup [.int c]))) ρ1 [] by
    obtain ⟨ρ1, h⟩ := h
    refine ⟨ρ1, ?_⟩
    show Sts (n + 19) (fnM 73 11).2.2.names [("self", .f tblF), ("codes", .f (iF cs)), ("places", .f (.lst [.int i])), ("gone", .f (fls cs.length)), ("data", .f datF)] [] (fnM 73 11).2.1 (.ret (.f (.tup [.int c]))) ρ1 []
    refine Sts.cons (ρ' := [("key", .f (.tup [.int c])), ("self", .f tblF), ("codes", .f (iF cs)), ("places", .f (.lst [.int i])), ("gone", .f (fls cs.length)), ("data", .f datF)]) (H' := []) (St1.asg (d := .f (.tup [.int c])) ?_ (by kernel_rfl) (by rfl) (by rfl)) ?_
    · refine X.s (EcallT (bn := "tuple") (ds := [.f (.lst [.int c])]) (by kernel_rfl) (xvC (by rfl) (V.of (X.comp (Ecomp (ds := [fI i]) (fs := [.int c]) (H1 := []) (by kernel_rfl) (by kernel_rfl) (Nat.le_of_ble_eq_true rfl) ?_)) (by rfl)) xvN) (by kernel_rfl))
      refine comp_map (α := Nat) (fun j => fI j) (fun j => .int c) (fun j => j = i) (fun j hj => ?_) [i] (by simp)
      subst hj
      refine ⟨_, fI c, rfl, X.idx (a := .f (iF cs)) (b := fI j) (V.nm (by kernel_rfl) (by decide)) (X.nm (by kernel_rfl) (by decide)) (getI_at (iF_lst cs _) hg cl) (by rfl), rfl⟩
    exact Sts.cons (ρ' := [("stays", fI 0), ("at", fI (i + 1)), ("key", .f (.tup [.int c])), ("self", .f tblF), ("codes", .f (iF cs)), ("places", .f (.lst [.int i])), ("gone", .f (fls cs.length)), ("data", .f datF)]) (H' := []) (by kernel_rfl) h
  have he : ∀ {k : Nat} {np p pos : Pos}, V (k + 2) (fnM 73 11).2.2.names [("stays", fI 0), ("at", fI (i + 1)), ("key", .f (.tup [.int c])), ("self", .f tblF), ("codes", .f (iF cs)), ("places", .f (.lst [.int i])), ("gone", .f (fls cs.length)), ("data", .f datF)] [] (.Call (.Name "len" np) [.Name "codes" p] [] pos) (fI cs.length) := fun {k np p pos} =>
    V.of (X.len (by kernel_rfl) (V.nm (d := .f (iF cs)) (by kernel_rfl) (by decide)) (iF_lst cs _) (List.length_map ..) (by first | exact le_lim (by assumption) | omega) (by rfl)) (by rfl)
  by_cases h : i + 1 < cs.length
  · refine ⟨[("rank", fI 0), ("stays", fI 0), ("at", fI (i + 1)), ("key", .f (.tup [.int c])), ("self", .f tblF), ("codes", .f (iF cs)), ("places", .f (.lst [.int i])), ("gone", .f (fls cs.length)), ("data", .f datF)], ?_⟩
    refine Sts.cons (ρ' := [("rank", fI 0), ("stays", fI 0), ("at", fI (i + 1)), ("key", .f (.tup [.int c])), ("self", .f tblF), ("codes", .f (iF cs)), ("places", .f (.lst [.int i])), ("gone", .f (fls cs.length)), ("data", .f datF)]) (H' := []) (St1.wh ?_) (Sts.ret (by kernel_rfl))
    refine WB (H1 := []) (n := 199) (B.cmp (V.nm (d := fI (i + 1)) (by kernel_rfl) (by decide)) he (ltB (i := i + 1) true (by simpa using h)) (by rfl)) ?_
    obtain ⟨c', hc'⟩ : ∃ c', cs[i + 1]? = some c' := ⟨_, List.getElem?_eq_getElem h⟩
    have hg' : (cs.map fI)[i + 1]? = some (fI c') := by rw [List.getElem?_map, hc']; rfl
    refine Sts.cons (ρ' := [("rank", fI 0), ("stays", fI 0), ("at", fI (i + 1)), ("key", .f (.tup [.int c])), ("self", .f tblF), ("codes", .f (iF cs)), ("places", .f (.lst [.int i])), ("gone", .f (fls cs.length)), ("data", .f datF)]) (H' := []) (St1.asg (d := fI 0) ?_ (by kernel_rfl) (by rfl) (by rfl)) (by kernel_rfl)
    refine X.s (Emeth (d := .f datF) (ds := [.f (.str "ccc"), fI c']) (H1 := []) (H2 := []) (by rfl) (by rfl) (X.nm (by kernel_rfl) (by decide)) (by rfl) (by kernel_rfl) (cl := c_Data) (by kernel_rfl) (f := f_Data_get) (by kernel_rfl) (xvC (by rfl) (by kernel_rfl) (xvC (by rfl) (V.of (X.idx (a := .f (iF cs)) (b := fI (i + 1)) (V.nm (by kernel_rfl) (by decide)) (X.nm (by kernel_rfl) (by decide)) (getI_at (i := i + 1) (iF_lst cs _) hg' cl) (by rfl)) (by rfl)) xvN)) (c_ccc _ c' _))
  · refine ⟨[("stays", fI 0), ("at", fI (i + 1)), ("key", .f (.tup [.int c])), ("self", .f tblF), ("codes", .f (iF cs)), ("places", .f (.lst [.int i])), ("gone", .f (fls cs.length)), ("data", .f datF)], ?_⟩
    refine Sts.cons (ρ' := [("stays", fI 0), ("at", fI (i + 1)), ("key", .f (.tup [.int c])), ("self", .f tblF), ("codes", .f (iF cs)), ("places", .f (.lst [.int i])), ("gone", .f (fls cs.length)), ("data", .f datF)]) (H' := []) (St1.wh ?_) (Sts.ret (by kernel_rfl))
    exact WF (H1 := []) (n := 199) (B.cmp (V.nm (d := fI (i + 1)) (by kernel_rfl) (by decide)) he (ltB (i := i + 1) false (by simpa using h)) (by rfl))
end Mine

end
noncomputable section
set_option Elab.async false
set_option maxRecDepth 100000
set_option linter.unusedVariables false
/-! the finding of elements, 3 -/
open PySem PySem.W
namespace Mine
noncomputable def SG : List Int := [97, 98, 65, 66, 48, 49, 50, 55]
noncomputable def fst1 (c : Int) : Int := if 97 ≤ c then 103 + c else if 65 ≤ c then 135 + c else 52 + c
noncomputable def thd1 (c : Int) : Int := if c = 65 ∨ c = 66 then 8 else 2
noncomputable def e1 (c : Int) : F := .tup [.int (fst1 c), .int 32, .int (thd1 c), .bool false]
noncomputable def attrF (x : Str) : F → F
  | .ins _ fs => (fs.lookup x).getD .none
  | _ => .none
noncomputable def tabD : F := attrF "table" tblF
noncomputable def lonD : F := attrF "longest" tblF
theorem sg8 {P : Int → Prop} (h : P 97 ∧ P 98 ∧ P 65 ∧ P 66 ∧ P 48 ∧ P 49 ∧ P 50 ∧ P 55) : ∀ c ∈ SG, P c := by
  obtain ⟨a, b, c, d, e, f, g, i⟩ := h
  intro x hx
  simp only [SG, List.mem_cons, List.not_mem_nil, or_false] at hx
  rcases hx with rfl | rfl | rfl | rfl | rfl | rfl | rfl | rfl <;> assumption
theorem l_long (H : Hp) : ∀ c ∈ SG, meth (.f lonD) "get" [fI c, fI 0] H = some (fI 1, H) := sg8 ⟨by kernel_rfl, by kernel_rfl, by kernel_rfl, by kernel_rfl, by kernel_rfl, by kernel_rfl, by kernel_rfl, by kernel_rfl⟩
theorem l_in (H : Hp) : ∀ c ∈ SG, cmp .NotIn (.f (.tup [.int c])) (.f tabD) H = some false := sg8 ⟨by kernel_rfl, by kernel_rfl, by kernel_rfl, by kernel_rfl, by kernel_rfl, by kernel_rfl, by kernel_rfl, by kernel_rfl⟩
theorem l_get (H : Hp) : ∀ c ∈ SG, getI (.f tabD) (.f (.tup [.int c])) H = some (.f (.lst [e1 c])) := sg8 ⟨by kernel_rfl, by kernel_rfl, by kernel_rfl, by kernel_rfl, by kernel_rfl, by kernel_rfl, by kernel_rfl, by kernel_rfl⟩
noncomputable def matchF (c : Int) (i : Nat) : F := .ins 422 [("elements", .lst [e1 c]), ("places", .lst [.int i]), ("onward", .int (i + 1))]
noncomputable def rM (cs : List Int) (i : Nat) : Rho := [("self", .f tblF), ("codes", .f (iF cs)), ("at", fI i), ("gone", .f (fls cs.length)), ("data", .f datF)]
section
variable {T : Tabs} {R : Rec} {sc : Sc} {ρ ρ1 ρ2 : Rho} {H H1 H2 H3 : Hp} {d a b : D} {n : Nat}
theorem EcallV {nm : Str} {np pos : Pos} {args : List Expr} {v : D} {ds : List D} {r : D × Hp} (h1 : R.ex sc (.Name nm np) ρ H = some (v, H)) (h3 : exVs R sc ρ args H = some (ds, H1)) (h4 : callV T R v ds H1 = some r) :
    stepEx T R sc (.Call (.Name nm np) args [] pos) ρ H = some r := by
  show ((R.ex sc (.Name nm np) ρ H).bind fun v => (exVs R sc ρ args v.2).bind fun x => callV T R v.1 x.1 x.2) = _
  exact bd h1 (bd h3 h4)
end
theorem xp {n : Nat} {sc : Sc} {ρ : Rho} {H : Hp} {e : Expr} {r : List Expr} {d : D} {ds : List D} (h0 : isStar e = false) (h1 : V n sc ρ H e d) (h2 : exVs (ev T n) sc ρ r H = some (ds, H)) : exVs (ev T n) sc ρ (e :: r) H = some (d :: ds, H) := xvC h0 h1 h2
theorem c_match (n i : Nat) (cs : List Int) (c : Int) (hc : cs[i]? = some c) (hs : c ∈ SG) (hm : cs.length ≤ 100) (H : Hp) : callFn (ev T (n + 26)) f_Elements_match [.f tblF, .f (iF cs), fI i, .f (fls cs.length), .f datF] H = some (.f (matchF c i), H) := by
  have hlim : lim = 100000 := rfl
  have hi := (List.getElem?_eq_some_iff.mp hc).1
  have cl : (cs.map fI).length ≤ lim := by rw [List.length_map]; omega
  have hg : (cs.map fI)[i]? = some (fI c) := by rw [List.getElem?_map, hc]; rfl
  refine Fp (n := n + 25) rfl rfl (fs := [tblF, iF cs, .int i, fls cs.length, datF]) rfl (ρ := rM cs i) rfl (d := .own 0) (H2 := [.ins 422 [("elements", .f (.lst [e1 c])), ("places", .f (.lst [.int i])), ("onward", fI (i + 1))]]) ⟨("key", .f (.tup [.int c])) :: ("places", .f (.lst [.int i])) :: ("size", fI 1) :: ("live", .f (.lst [.int i])) :: rM cs i, ?_⟩ rfl
  show Sts (n + 25) (fnM 73 10).2.2.names (rM cs i) [] (fnM 73 10).2.1 _ _ _
  refine Sts.cons (ρ' := ("live", .f (.lst [.int i])) :: rM cs i) (H' := []) (St1.asg (d := .f (.lst [.int i])) ?_ (by kernel_rfl) (by rfl) (by rfl)) ?_
  · refine X.s (Ecall (f := f_coll_live) (ad := 539) (ds := [.f (fls cs.length), fI i, fI 1]) (H1 := []) (by kernel_rfl) (by kernel_rfl) (xp (by rfl) (by kernel_rfl) (xp (by rfl) (by kernel_rfl) (xp (by rfl) (V.of ?_ (by rfl)) xvN))) (c_live (n + 12) cs.length i hi hm _))
    refine X.s (EcallB (bn := "max") (ds := [fI 1, fI 1]) (by kernel_rfl) (xp (by rfl) (by kernel_rfl) (xp (by rfl) (V.of ?_ (by rfl)) xvN)) (by kernel_rfl))
    refine X.s (EmethL (d := .f lonD) (ds := [fI c, fI 0]) (H1 := []) (H2 := []) (by rfl) (by rfl) (by kernel_rfl) (by kernel_rfl) (by kernel_rfl) ?_ (l_long _ c hs))
    rw [if_neg (by decide)]
    exact xp (by rfl) (V.of (X.idx (a := .f (iF cs)) (b := fI i) (V.nm (by kernel_rfl) (by decide)) (X.nm (by kernel_rfl) (by decide)) (getI_at (iF_lst cs _) hg cl) (by rfl)) (by rfl)) (by kernel_rfl)
  refine Sts.cons (ρ' := ("size", fI 1) :: ("live", .f (.lst [.int i])) :: rM cs i) (H' := []) (by kernel_rfl) ?_
  refine Sts.cons (ρ' := ("size", fI 1) :: ("live", .f (.lst [.int i])) :: rM cs i) (H' := []) (St1.wh (WF (H1 := []) (n := 199) (B.andT (by kernel_rfl) (B.cmp (a := .f (.tup [.int c])) (b := .f tabD) (V.of ?_ (by rfl)) (by kernel_rfl) (l_in _ c hs) (by rfl))))) ?_
  · refine X.s (EcallT (bn := "tuple") (ds := [.f (.lst [.int c])]) (by kernel_rfl) (xp (by rfl) (V.of (X.comp (Ecomp (ds := [fI i]) (fs := [.int c]) (H1 := []) (by kernel_rfl) (by kernel_rfl) (Nat.le_of_ble_eq_true rfl) ?_)) (by rfl)) xvN) (by kernel_rfl))
    refine comp_map (α := Nat) (fun j => fI j) (fun j => .int c) (fun j => j = i) (fun j hj => ?_) [i] (by simp)
    subst hj
    exact ⟨_, fI c, rfl, X.idx (a := .f (iF cs)) (b := fI j) (V.nm (by kernel_rfl) (by decide)) (X.nm (by kernel_rfl) (by decide)) (getI_at (iF_lst cs _) hg cl) (by rfl), rfl⟩
  refine Sts.cons (ρ' := ("size", fI 1) :: ("live", .f (.lst [.int i])) :: rM cs i) (H' := []) (by kernel_rfl) ?_
  refine Sts.cons (ρ' := ("places", .f (.lst [.int i])) :: ("size", fI 1) :: ("live", .f (.lst [.int i])) :: rM cs i) (H' := []) (by kernel_rfl) ?_
  refine Sts.cons (ρ' := ("key", .f (.tup [.int c])) :: ("places", .f (.lst [.int i])) :: ("size", fI 1) :: ("live", .f (.lst [.int i])) :: rM cs i) (H' := []) (St1.asg (d := .f (.tup [.int c])) ?_ (by kernel_rfl) (by rfl) (by rfl)) ?_
  · exact X.s (Emeth (d := .f tblF) (ds := [.f (iF cs), .f (.lst [.int i]), .f (fls cs.length), .f datF]) (H1 := []) (H2 := []) (by rfl) (by rfl) (X.nm (by kernel_rfl) (by decide)) (by rfl) (by kernel_rfl) (cl := c_Elements) (by kernel_rfl) (f := f_Elements_with_marks) (by kernel_rfl) (by kernel_rfl) (c_marks _ i cs c hc hm _))
  refine Sts.ret (Sreturn (xV (by rfl) ?_))
  refine X2.s (EcallV (v := .f (.glob (.ref 422))) (ds := [.f (.lst [e1 c]), .f (.lst [.int i]), fI (i + 1)]) (H1 := []) (by kernel_rfl) (xp (by rfl) (V.of (X.idx (a := .f tabD) (b := .f (.tup [.int c])) (by kernel_rfl) (by kernel_rfl) (l_get _ c hs) (by rfl)) (by rfl)) (by kernel_rfl)) (by kernel_rfl))
end Mine

end
noncomputable section
set_option Elab.async false
set_option maxRecDepth 100000
set_option linter.unusedVariables false
/-! the finding of elements, 4 -/
open PySem PySem.W
namespace Mine
theorem c_nfd (n : Nat) (H : Hp) : ∀ c ∈ SG, callFn (ev T (n + 21)) f_nfd [.f (iF [c]), .f datF] H = some (.f (iF [c]), H) :=
  sg8 ⟨by kernel_rfl, by kernel_rfl, by kernel_rfl, by kernel_rfl, by kernel_rfl, by kernel_rfl, by kernel_rfl, by kernel_rfl⟩
section
variable {n : Nat} {sc : Sc} {ρ ρ' ρ2 : Rho} {H H' H1 H2 : Hp} {a b d : D} {e e2 : Expr} {p p' pos : Pos}
/-- x.insert(e, e2) at the end -/
theorem St1.insert {x : Str} {k : Nat} {ds : List D} {p1 p2 p3 p4 : Pos} (hx : var T sc ρ x = some (.own k)) (hk : H[k]? = some (.lst ds)) (he : V (n + 1) sc ρ H e (fI ds.length)) (he2 : V (n + 1) sc ρ H e2 d) (hl : ds.length ≤ lim) (hn : nameOk x = true) (hs : isStar e = false) (hs2 : isStar e2 = false) (h0 : (!(p2.endLine == p3.line) || !decide (2 < 30)) = false) :
    St1 (n + 2) sc ρ H (.Expr (.Call (.Attribute (.Name x p1) "insert" p2) [e, e2] [] p3) p4) .next ρ (H.set k (.lst (ds ++ [d]))) := by
  refine St1.methH hx hk hk ((if_neg (by decide)).trans (xp hs he (xp hs2 he2 xvN))) rfl ?_ hl hn h0
  unfold methL
  rw [if_neg (by decide), if_neg (by decide), if_neg (by decide), if_pos rfl]
  exact if_pos rfl
/-- x.extend(e) -/
theorem St1.extend {x : Str} {k : Nat} {ds : List D} {fs : List F} {p1 p2 p3 p4 : Pos} (hx : var T sc ρ x = some (.own k)) (hk : H[k]? = some (.lst ds)) (he : V (n + 1) sc ρ H e d) (hf : frozen d H = some (.lst fs)) (hl : ds.length ≤ lim) (hl2 : fs.length ≤ lim) (hn : nameOk x = true) (hs : isStar e = false) (h0 : (!(p2.endLine == p3.line) || !decide (1 < 30)) = false) :
    St1 (n + 2) sc ρ H (.Expr (.Call (.Attribute (.Name x p1) "extend" p2) [e] [] p3) p4) .next ρ (H.set k (.lst (ds ++ fs.map .f))) := by
  refine St1.methH hx hk hk ((if_neg (by decide)).trans (xp hs he xvN)) rfl ?_ hl hn h0
  unfold methL
  rw [if_neg (by decide), if_pos rfl]
  exact md (f := fun fs => (D.f .none, ds ++ dF fs)) (bd (bd hf rfl) (if_pos hl2))
end
theorem fzs_f (n : Nat) (H : Hp) : ∀ fs : List F, fzs (fz n) (fs.map .f) H = some (fs, H)
  | [] => rfl
  | x :: fs => by
    rw [List.map_cons]; unfold fzs
    refine bd (a := (x, H)) ?_ (md (fzs_f n H fs))
    cases n <;> rfl
/-- a list of the call's own, frozen -/
theorem fz_own (n : Nat) {k : Nat} {H : Hp} {fs : List F} (h : H[k]? = some (.lst (fs.map .f))) : fz (n + 1) (.own k) H = some (.lst fs, H.set k (.frz (.lst fs))) := by
  show H[k]?.bind (fzO (fz n) k H) = _
  refine bd h (bd (fzs_f n H fs) ?_)
  unfold fzPut
  rw [h]; rfl
theorem lstOf_own {k : Nat} {H : Hp} {fs : List F} (h : H[k]? = some (.lst (fs.map .f))) (hl : fs.length ≤ lim) : lstOf (.own k) H = some (fs, H.set k (.frz (.lst fs))) := by
  unfold lstOf
  exact bd (fz_own 11 h) (md (x := limL fs) (if_pos hl))
section
variable {n : Nat} {sc : Sc} {ρ : Rho} {H : Hp} {e : Expr} {p np pos : Pos}
theorem it_enum {fs : List F} (hn : (sc.lookup (Str.ofString "enumerate") == some .globalImplicit && !isStar e) = true) (h : X n sc ρ H e (.f (.lst fs))) (hl : fs.length ≤ lim) : iters (ev T n) sc (.Call (.Name "enumerate" np) [e] [] pos) ρ H = some (enumL 0 (fs.map .f), H) := by
  exact (if_pos hn).trans (bd h (md (a := (fs, H)) (md (x := limL fs) (if_pos hl))))
theorem it_own {x : Str} {k : Nat} {fs : List F} (h : var T sc ρ x = some (.own k)) (hk : H[k]? = some (.lst (fs.map .f))) (hl : fs.length ≤ lim) (h1 : nameOk x = true) : iters (ev T (n + 1)) sc (.Name x p) ρ H = some (fs.map .f, H.set k (.frz (.lst fs))) := by
  show (exV (ev T (n + 1)) sc (.Name x p) ρ H).bind (fun x => itemsOf x.1 x.2) = _
  refine bd (V.nm h h1) ?_
  exact md (lstOf_own hk hl)
end
noncomputable def idxFrom : Nat → List Int → List (Int × Nat)
  | _, [] => []
  | j, c :: r => (c, j) :: idxFrom (j + 1) r
theorem idxFrom_len : ∀ (cs : List Int) (j : Nat), (idxFrom j cs).length = cs.length
  | [], _ => rfl
  | _ :: r, j => congrArg (· + 1) (idxFrom_len r (j + 1))
noncomputable def row3 (c : Int) (j : Nat) : F := .tup [.int c, .int j, .int 0]
noncomputable def rowsFrom (j : Nat) (cs : List Int) : List F := (idxFrom j cs).map fun x => row3 x.1 x.2
noncomputable def pairsFrom (j : Nat) (cs : List Int) : List F := (idxFrom j cs).map fun x => .tup [.int x.1, .int x.2]
theorem rowsFrom_len (cs : List Int) (j : Nat) : (rowsFrom j cs).length = cs.length := by unfold rowsFrom; rw [List.length_map, idxFrom_len]
noncomputable def rD (cs : List Int) : Option (Nat × Int) → Rho
  | none => [("rows", .own 0), ("text", .f (iF cs)), ("data", .f datF)]
  | some (j, c) => [("at", fI j), ("rank", fI 0), ("part", fI c), ("code", fI c), ("place", fI j), ("rows", .own 0), ("text", .f (iF cs)), ("data", .f datF)]
noncomputable def rD1 (cs : List Int) (j : Nat) (c : Int) : Option (Nat × Int) → Rho
  | none => [("code", fI c), ("place", fI j), ("rows", .own 0), ("text", .f (iF cs)), ("data", .f datF)]
  | some (j', c') => [("code", fI c), ("place", fI j), ("at", fI j'), ("rank", fI 0), ("part", fI c'), ("rows", .own 0), ("text", .f (iF cs)), ("data", .f datF)]
noncomputable def rD2 (cs : List Int) (j : Nat) (c : Int) : Option (Nat × Int) → Rho
  | none => [("part", fI c), ("code", fI c), ("place", fI j), ("rows", .own 0), ("text", .f (iF cs)), ("data", .f datF)]
  | some (j', c') => [("part", fI c), ("code", fI c), ("place", fI j), ("at", fI j'), ("rank", fI 0), ("rows", .own 0), ("text", .f (iF cs)), ("data", .f datF)]
noncomputable def rD3 (cs : List Int) (j : Nat) (c : Int) : Option (Nat × Int) → Rho
  | none => [("rank", fI 0), ("part", fI c), ("code", fI c), ("place", fI j), ("rows", .own 0), ("text", .f (iF cs)), ("data", .f datF)]
  | some (j', c') => [("rank", fI 0), ("part", fI c), ("code", fI c), ("place", fI j), ("at", fI j'), ("rows", .own 0), ("text", .f (iF cs)), ("data", .f datF)]
noncomputable def forPart : Stmt → Expr × Expr × List Stmt
  | .For t it b _ _ => (t, it, b)
  | _ => default
noncomputable def decFor : Expr × Expr × List Stmt := forPart ((fnT 75).2.1.getD 1 default)
noncomputable abbrev scD : Sc := (fnT 75).2.2.names
theorem dec_body (n j : Nat) (cs : List Int) (o : Option (Nat × Int)) (c : Int) (hs : c ∈ SG) (acc : List F) (hj : acc.length = j) (hl : j ≤ 100) :
    ∃ ρ1, bindT scD 4 decFor.1 (.f (.tup [.int j, .int c])) (rD cs o) = some ρ1 ∧ (ev T (n + 26)).st scD decFor.2.2 ρ1 [.lst (acc.map .f)] = some (.next, rD cs (some (j, c)), [.lst ((acc ++ [row3 c j]).map .f)]) := by
  have hlim : lim = 100000 := rfl
  refine ⟨rD1 cs j c o, by rcases o with _ | ⟨j', c'⟩ <;> kernel_rfl, ?_⟩
  show Sts (n + 25) scD (rD1 cs j c o) _ decFor.2.2 _ _ _
  refine Sts.cons (ρ' := rD cs (some (j, c))) (H' := [.lst ((acc ++ [row3 c j]).map .f)]) ?_ Sts.nil
  refine Sfor (ds := [fI c]) (H1 := [.lst (acc.map .f)]) (by kernel_rfl) ?_ (FC (ρ1 := rD2 cs j c o) (ρ2 := rD cs (some (j, c))) (H2 := [.lst ((acc ++ [row3 c j]).map .f)]) (by rcases o with _ | ⟨j', c'⟩ <;> kernel_rfl) ?_ FN)
  · show (exV (ev T (n + 25)) scD _ (rD1 cs j c o) _).bind (fun x => itemsOf x.1 x.2) = _
    refine bd (a := (.f (iF [c]), [.lst (acc.map .f)])) (V.of (X2.s (Ecall (f := f_nfd) (ad := 195) (ds := [.f (iF [c]), .f datF]) (H1 := [.lst (acc.map .f)]) (by kernel_rfl) (by kernel_rfl) (by rcases o with _ | ⟨j', c'⟩ <;> kernel_rfl) (c_nfd (n + 3) _ c hs))) (by rfl)) (by kernel_rfl)
  · show Sts (n + 24) scD (rD2 cs j c o) [.lst (acc.map .f)] _ _ _ _
    refine Sts.cons (ρ' := rD3 cs j c o) (H' := [.lst (acc.map .f)]) (by rcases o with _ | ⟨j', c'⟩ <;> kernel_rfl) ?_
    refine Sts.cons (ρ' := rD cs (some (j, c))) (H' := [.lst (acc.map .f)]) (St1.asg (d := fI j) (X.len (ds := acc.map .f) (by kernel_rfl) (V.nm (d := .own 0) (by rcases o with _ | ⟨j', c'⟩ <;> kernel_rfl) (by decide)) (by rfl) (by rw [List.length_map, hj]) (by first | exact le_lim (by assumption) | omega) (by rfl)) (by rcases o with _ | ⟨j', c'⟩ <;> kernel_rfl) (by rfl) (by rfl)) ?_
    refine Sts.cons (ρ' := rD cs (some (j, c))) (H' := [.lst (acc.map .f)]) (St1.wh (WF (H1 := [.lst (acc.map .f)]) (n := 199) (by kernel_rfl))) ?_
    have := @St1.insert
    refine Sts.cons (ρ' := rD cs (some (j, c))) (H' := [.lst ((acc ++ [row3 c j]).map .f)]) ?_ Sts.nil
    rw [List.map_append]
    exact St1.insert (k := 0) (ds := acc.map .f) (d := .f (row3 c j)) (by kernel_rfl) (by rfl) (by rw [List.length_map, hj]; kernel_rfl) (by kernel_rfl) (by first | exact lmap (by assumption) | (rw [List.length_map]; omega)) (by decide) (by rfl) (by rfl) (by rfl)
theorem dec_loop (n : Nat) (ts : List Int) : ∀ (cs : List Int) (j : Nat) (acc : List F) (o : Option (Nat × Int)), acc.length = j → (∀ c ∈ cs, c ∈ SG) → j + cs.length ≤ 100 →
    ∃ o', forL (ev T (n + 26)) scD decFor.1 decFor.2.2 (enumL j (cs.map fI)) (rD ts o) [.lst (acc.map .f)] = some (.next, rD ts o', [.lst ((acc ++ rowsFrom j cs).map .f)])
  | [], j, acc, o, hj, hs, hl => ⟨o, by rw [show rowsFrom j [] = [] from rfl, List.append_nil]; rfl⟩
  | c :: cs, j, acc, o, hj, hs, hl => by
    rw [List.length_cons] at hl
    obtain ⟨ρ1, h1, h2⟩ := dec_body n j ts o c (hs c (.head _)) acc hj (by first | exact le_lim (by assumption) | omega)
    obtain ⟨o', h3⟩ := dec_loop n ts cs (j + 1) (acc ++ [row3 c j]) (some (j, c)) (by rw [List.length_append, hj]; rfl) (fun x m => hs x (.tail _ m)) (by first | exact le_lim (by assumption) | omega)
    refine ⟨o', FC h1 h2 (h3.trans ?_)⟩
    rw [List.append_assoc]; rfl
theorem c_dec (n : Nat) (cs : List Int) (hs : ∀ c ∈ cs, c ∈ SG) (hl : cs.length ≤ 100) (H : Hp) : callFn (ev T (n + 28)) f_coll_decomposed [.f (iF cs), .f datF] H = some (.f (.lst (pairsFrom 0 cs)), H) := by
  have hlim : lim = 100000 := rfl
  obtain ⟨o, h⟩ := dec_loop (n + 1) cs cs 0 [] none rfl hs (by first | exact le_lim (by assumption) | omega)
  refine Fp (n := n + 27) rfl rfl (fs := [iF cs, datF]) rfl (ρ := [("text", .f (iF cs)), ("data", .f datF)]) rfl (d := .f (.lst (pairsFrom 0 cs))) (H2 := [.frz (.lst (rowsFrom 0 cs))]) ⟨rD cs o, ?_⟩ rfl
  show Sts (n + 27) scD _ [] (fnT 75).2.1 _ _ _
  refine Sts.cons (ρ' := rD cs none) (H' := [.lst []]) (by kernel_rfl) ?_
  refine Sts.cons (ρ' := rD cs o) (H' := [.lst ((rowsFrom 0 cs).map .f)]) (Sfor (ds := enumL 0 (cs.map fI)) (H1 := [.lst []]) (by kernel_rfl) ?_ h) ?_
  · refine (it_enum (fs := cs.map .int) (by kernel_rfl) (X.nm (by kernel_rfl) (by decide)) (by first | exact lmap (by assumption) | (rw [List.length_map]; omega))).trans ?_
    rw [List.map_map]; rfl
  · refine Sts.ret (Sreturn (xV (by rfl) (X.comp (Ecomp (ds := (rowsFrom 0 cs).map .f) (fs := pairsFrom 0 cs) (by kernel_rfl) (it_own (k := 0) (fs := rowsFrom 0 cs) (by rcases o with _ | ⟨j', c'⟩ <;> kernel_rfl) (by rfl) (by rw [rowsFrom_len]; omega) (by decide)) (by rw [List.length_map, rowsFrom_len]; omega) ?_))))
    rw [show (rowsFrom 0 cs).map D.f = (idxFrom 0 cs).map fun x => .f (row3 x.1 x.2) by rw [rowsFrom, List.map_map]; rfl]
    exact comp_map (fun x : Int × Nat => .f (row3 x.1 x.2)) (fun x => .tup [.int x.1, .int x.2]) (fun _ => True) (fun x _ => ⟨[("row", .f (row3 x.1 x.2))], .f (.tup [.int x.1, .int x.2]), by rcases o with _ | ⟨j', c'⟩ <;> kernel_rfl, by kernel_rfl, rfl⟩) (idxFrom 0 cs) fun _ _ => trivial
end Mine

end
noncomputable section
set_option Elab.async false
set_option maxRecDepth 100000
set_option linter.unusedVariables false
/-! the finding of elements, 5 -/
open PySem PySem.W
namespace Mine
theorem idxFrom_get : ∀ (cs : List Int) (j i : Nat) (c : Int), cs[i]? = some c → (idxFrom j cs)[i]? = some (c, j + i)
  | [], _, _, _, h => by simp at h
  | x :: r, j, 0, c, h => by simp at h; simp [idxFrom, h]
  | x :: r, j, i + 1, c, h => by
    have := idxFrom_get r (j + 1) i c (by simpa using h)
    show (idxFrom (j + 1) r)[i]? = _
    rw [this]; congr 2; omega
theorem idxFrom_fst : ∀ (cs : List Int) (j : Nat), (idxFrom j cs).map (fun x => F.int x.1) = cs.map F.int
  | [], _ => rfl
  | x :: r, j => congrArg (F.int x :: ·) (idxFrom_fst r (j + 1))
noncomputable def entF (c : Int) (i : Nat) : F := .tup [.lst [e1 c], .int i, .int (i + 1)]
noncomputable def entsFrom (j : Nat) (cs : List Int) : List F := (idxFrom j cs).map fun x => entF x.1 x.2
noncomputable def bL (cs ts : List Int) : Rho := [("gone", .f (fls cs.length)), ("codes", .f (iF cs)), ("rows", .f (.lst (pairsFrom 0 cs))), ("self", .f tblF), ("text", .f (iF ts)), ("data", .f datF)]
noncomputable def rL (cs ts : List Int) (i : Nat) : Option (Int × Nat) → Rho
  | none => ("at", fI i) :: ("found", .own 0) :: bL cs ts
  | some (c, j) => ("at", fI i) :: ("origins", .f (.lst [.int j])) :: ("taken", .f (matchF c j)) :: ("found", .own 0) :: bL cs ts
noncomputable def rL1 (cs ts : List Int) (i : Nat) (c : Int) : Option (Int × Nat) → Rho
  | none => ("taken", .f (matchF c i)) :: ("at", fI i) :: ("found", .own 0) :: bL cs ts
  | some (c', j) => ("taken", .f (matchF c i)) :: ("at", fI i) :: ("origins", .f (.lst [.int j])) :: ("found", .own 0) :: bL cs ts
noncomputable def rL2 (cs ts : List Int) (i : Nat) (c : Int) : Rho := ("origins", .f (.lst [.int i])) :: ("taken", .f (matchF c i)) :: ("at", fI i) :: ("found", .own 0) :: bL cs ts
noncomputable abbrev scL : Sc := (fnM 73 12).2.2.names
noncomputable def whPart : Stmt → Expr × List Stmt
  | .While c b _ _ => (c, b)
  | _ => default
noncomputable def locWh : Expr × List Stmt := whPart ((fnM 73 12).2.1.getD 2 default)
theorem loc_body (n i : Nat) (cs ts : List Int) (o : Option (Int × Nat)) (c : Int) (hc : cs[i]? = some c) (hs : c ∈ SG) (hm : cs.length ≤ 100) (acc : List F) (ha : acc.length = i) :
    (ev T (n + 31)).st scL locWh.2 (rL cs ts i o) [.lst (acc.map .f)] = some (.next, rL cs ts (i + 1) (some (c, i)), [.lst ((acc ++ [entF c i]).map .f)]) := by
  have hlim : lim = 100000 := rfl
  have hi := (List.getElem?_eq_some_iff.mp hc).1
  show Sts (n + 30) scL (rL cs ts i o) _ locWh.2 _ _ _
  refine Sts.cons (ρ' := rL cs ts (i + 1) (some (c, i))) (H' := [.lst ((acc ++ [entF c i]).map .f)]) (St1.ifF (B.val (d := fB false) (X.idx (a := .f (fls cs.length)) (b := fI i) (V.nm (by rcases o with _ | ⟨c', j⟩ <;> kernel_rfl) (by decide)) (X.nm (by rcases o with _ | ⟨c', j⟩ <;> kernel_rfl) (by decide)) (getI_at (fls_lst _ _) (by rw [List.getElem?_replicate, if_pos hi]) (by rw [List.length_replicate]; omega)) (by rfl)) rfl (by rfl)) ?_) Sts.nil
  show Sts (n + 29) scL (rL cs ts i o) _ _ _ _ _
  refine Sts.cons (ρ' := rL1 cs ts i c o) (H' := [.lst (acc.map .f)]) (St1.asg (d := .f (matchF c i)) ?_ (by rcases o with _ | ⟨c', j⟩ <;> kernel_rfl) (by rfl) (by rfl)) ?_
  · exact X2.s (Emeth (d := .f tblF) (ds := [.f (iF cs), fI i, .f (fls cs.length), .f datF]) (H1 := [.lst (acc.map .f)]) (H2 := [.lst (acc.map .f)]) (by rfl) (by rfl) (X.nm (by rcases o with _ | ⟨c', j⟩ <;> kernel_rfl) (by decide)) (by rfl) (by kernel_rfl) (cl := c_Elements) (by kernel_rfl) (f := f_Elements_match) (by kernel_rfl) (by rcases o with _ | ⟨c', j⟩ <;> kernel_rfl) (c_match (n + 2) i cs c hc hs hm _))
  refine Sts.cons (ρ' := rL2 cs ts i c) (H' := [.lst (acc.map .f)]) (St1.asgC (d := .f (.lst [.int i])) (Ecomp (ds := [fI i]) (fs := [.int i]) (H1 := [.lst (acc.map .f)]) (by kernel_rfl) (by rcases o with _ | ⟨c', j⟩ <;> kernel_rfl) (Nat.le_of_ble_eq_true rfl) ?_) (by rcases o with _ | ⟨c', j⟩ <;> kernel_rfl) (by rfl)) ?_
  · refine comp_map (α := Nat) (fun j => fI j) (fun j => .int j) (fun j => j = i) (fun j hj => ?_) [i] (by simp)
    subst hj
    refine ⟨[("place", fI j), ("rows", .f (.lst (pairsFrom 0 cs)))], fI j, by rcases o with _ | ⟨c', j⟩ <;> kernel_rfl, X.idx (a := .f (.tup [.int c, .int j])) (b := fI 1) (V.of (X.idx (a := .f (.lst (pairsFrom 0 cs))) (b := fI j) (V.nm (by kernel_rfl) (by decide)) (X.nm (by kernel_rfl) (by decide)) (getI_at (l := (pairsFrom 0 cs).map .f) (by rfl) ?_ ?_) (by rfl)) (by rfl)) (by kernel_rfl) (by kernel_rfl) (by rfl), rfl⟩
    · rw [List.getElem?_map, pairsFrom, List.getElem?_map, idxFrom_get cs 0 j c hc]; simp
    · rw [List.length_map, pairsFrom, List.length_map, idxFrom_len]; omega
  refine Sts.cons (ρ' := rL2 cs ts i c) (H' := [.lst ((acc ++ [entF c i]).map .f)]) ?_ ?_
  · rw [List.map_append]
    exact St1.append (k := 0) (ds := acc.map .f) (d := .f (entF c i)) (by kernel_rfl) (by rfl) (by kernel_rfl) (by first | exact lmap (by assumption) | (rw [List.length_map]; omega)) (by decide) (by rfl) (by rfl)
  · exact Sts.cons (ρ' := rL cs ts (i + 1) (some (c, i))) (H' := [.lst ((acc ++ [entF c i]).map .f)]) (by kernel_rfl) Sts.nil
theorem loc_cond (n i : Nat) (cs ts : List Int) (o : Option (Int × Nat)) (hm : cs.length ≤ 100) (H : Hp) (t : Bool) (h : decide (i < cs.length) = t) : (ev T (n + 31)).ts scL locWh.1 (rL cs ts i o) H = some (t, H) := by
  have hlim : lim = 100000 := rfl
  show B (n + 31) scL (rL cs ts i o) H locWh.1 t
  exact B.cmp (V.nm (d := fI i) (by rcases o with _ | ⟨c', j⟩ <;> kernel_rfl) (by decide)) (V.of (X.len (by kernel_rfl) (V.nm (d := .f (iF cs)) (by rcases o with _ | ⟨c', j⟩ <;> kernel_rfl) (by decide)) (iF_lst cs _) (List.length_map ..) (by first | exact le_lim (by assumption) | omega) (by rfl)) (by rfl)) (ltB t h) (by rfl)
theorem loc_loop (n : Nat) (cs ts : List Int) (hs : ∀ c ∈ cs, c ∈ SG) (hm : cs.length ≤ 100) : ∀ (k i : Nat) (acc : List F) (o : Option (Int × Nat)) (fuel : Nat), i + k = cs.length → acc.length = i → k < fuel →
    ∃ o', whileL (ev T (n + 31)) scL locWh.1 locWh.2 fuel (rL cs ts i o) [.lst (acc.map .f)] = some (.next, rL cs ts cs.length o', [.lst ((acc ++ entsFrom i (cs.drop i)).map .f)])
  | 0, i, acc, o, fuel + 1, hk, ha, hf => by
    refine ⟨o, ?_⟩
    have : i = cs.length := by omega
    subst this
    rw [List.drop_length, show entsFrom cs.length [] = [] from rfl, List.append_nil]
    exact WF (loc_cond n _ cs ts o hm _ false (by simp))
  | k + 1, i, acc, o, fuel + 1, hk, ha, hf => by
    have hi : i < cs.length := by omega
    have hc : cs[i]? = some cs[i] := List.getElem?_eq_getElem hi
    obtain ⟨o', h⟩ := loc_loop n cs ts hs hm k (i + 1) (acc ++ [entF cs[i] i]) (some (cs[i], i)) fuel (by first | exact le_lim (by assumption) | omega) (by rw [List.length_append, ha]; rfl) (by first | exact le_lim (by assumption) | omega)
    refine ⟨o', WT (loc_cond n i cs ts o hm _ true (by simpa using hi)) (loc_body n i cs ts o cs[i] hc (hs _ (List.getElem_mem hi)) hm acc ha) (h.trans ?_)⟩
    rw [List.append_assoc, List.drop_eq_getElem_cons hi]; rfl
theorem c_located (n : Nat) (cs : List Int) (hs : ∀ c ∈ cs, c ∈ SG) (hm : cs.length ≤ 100) (H : Hp) : callFn (ev T (n + 32)) f_Elements_located [.f tblF, .f (iF cs), .f datF] H = some (.f (.lst (entsFrom 0 cs)), H) := by
  have hlim : lim = 100000 := rfl
  obtain ⟨o, h⟩ := loc_loop n cs cs hs hm cs.length 0 [] none 200 (by first | exact le_lim (by assumption) | omega) rfl (by first | exact le_lim (by assumption) | omega)
  rw [List.drop_zero] at h
  refine Fp (n := n + 31) rfl rfl (fs := [tblF, iF cs, datF]) rfl (ρ := [("self", .f tblF), ("text", .f (iF cs)), ("data", .f datF)]) rfl (d := .own 0) (H2 := [.lst ((entsFrom 0 cs).map .f)]) ⟨rL cs cs cs.length o, ?_⟩ (fz_own 11 rfl)
  show Sts (n + 31) scL _ [] (fnM 73 12).2.1 _ _ _
  refine Sts.cons (ρ' := [("rows", .f (.lst (pairsFrom 0 cs))), ("self", .f tblF), ("text", .f (iF cs)), ("data", .f datF)]) (H' := []) (St1.asg (d := .f (.lst (pairsFrom 0 cs))) (X2.s (Ecall (f := f_coll_decomposed) (ad := 544) (ds := [.f (iF cs), .f datF]) (H1 := []) (by kernel_rfl) (by kernel_rfl) (by kernel_rfl) (c_dec (n + 2) cs hs hm _))) (by kernel_rfl) (by rfl) (by rfl)) ?_
  refine Sts.cons (ρ' := rL cs cs 0 none) (H' := [.lst []]) (St1.asgT (d := .tup [.f (iF cs), .f (fls cs.length), .own 0, fI 0]) (X2.s (Etup (ds := [.f (iF cs), .f (fls cs.length), .own 0, fI 0]) (by rfl) (xsC (by rfl) (X.comp (H1 := []) (Ecomp (ds := (pairsFrom 0 cs).map .f) (fs := cs.map .int) (H1 := []) (by kernel_rfl) (it_nm (by kernel_rfl) ?_ (by decide)) ?_ ?_)) (xsC (by rfl) (X.bin (a := .f (.lst [.bool false])) (b := fI cs.length) (by kernel_rfl) (V.of (X.len (d := .f (.lst (pairsFrom 0 cs))) (ds := (pairsFrom 0 cs).map .f) (by kernel_rfl) (V.nm (by kernel_rfl) (by decide)) (by rfl) ?_ (by first | exact le_lim (by assumption) | omega) (by rfl)) (by rfl)) ?_) (by kernel_rfl))))) (by kernel_rfl) (by kernel_rfl) (by rfl)) ?_
  · rw [pairsFrom, List.length_map, idxFrom_len]; omega
  · rw [List.length_map, pairsFrom, List.length_map, idxFrom_len]; omega
  · rw [show (pairsFrom 0 cs).map D.f = (idxFrom 0 cs).map fun x => .f (.tup [.int x.1, .int x.2]) by rw [pairsFrom, List.map_map]; rfl, ← idxFrom_fst cs 0]
    exact comp_map (fun x : Int × Nat => .f (.tup [.int x.1, .int x.2])) (fun x => .int x.1) (fun _ => True) (fun x _ => ⟨[("row", .f (.tup [.int x.1, .int x.2]))], fI x.1, by kernel_rfl, by kernel_rfl, rfl⟩) (idxFrom 0 cs) fun _ _ => trivial
  · rw [List.length_map, pairsFrom, List.length_map, idxFrom_len]
  · exact mulC (by first | exact le_lim (by assumption) | omega)
  exact Sts.cons (St1.wh h) (Sts.ret (by rcases o with _ | ⟨c', j⟩ <;> kernel_rfl))
end Mine

end
noncomputable section
set_option Elab.async false
set_option maxRecDepth 100000
set_option linter.unusedVariables false
/-! elements of a text, and of one with figures -/
open PySem PySem.W
namespace Mine
noncomputable abbrev scE : Sc := (fnM 73 13).2.2.names
noncomputable def elFor : Expr × Expr × List Stmt := forPart ((fnM 73 13).2.1.getD 1 default)
noncomputable def rE (ts : List Int) : Option (Int × Nat) → Rho
  | none => [("found", .own 0), ("self", .f tblF), ("text", .f (iF ts)), ("data", .f datF)]
  | some (c, i) => [("ended", fI (i + 1)), ("begun", fI i), ("elements", .f (.lst [e1 c])), ("found", .own 0), ("self", .f tblF), ("text", .f (iF ts)), ("data", .f datF)]
theorem el_loop (n : Nat) (ts : List Int) : ∀ (l : List (Int × Nat)) (acc : List F) (o : Option (Int × Nat)), acc.length + l.length ≤ 100 →
    ∃ o', forL (ev T (n + 12)) scE elFor.1 elFor.2.2 (l.map fun x => .f (entF x.1 x.2)) (rE ts o) [.lst (acc.map .f)] = some (.next, rE ts o', [.lst ((acc ++ l.map fun x => e1 x.1).map .f)])
  | [], acc, o, hl => ⟨o, by simp; rfl⟩
  | (c, i) :: l, acc, o, hl => by
    have hlim : lim = 100000 := rfl
    rw [List.length_cons] at hl
    obtain ⟨o', h⟩ := el_loop n ts l (acc ++ [e1 c]) (some (c, i)) (by rw [List.length_append, List.length_singleton]; omega)
    refine ⟨o', FC (ρ1 := rE ts (some (c, i))) (by rcases o with _ | ⟨c', j⟩ <;> kernel_rfl) ?_ (h.trans ?_)⟩
    · show Sts (n + 11) scE (rE ts (some (c, i))) _ elFor.2.2 _ _ _
      refine Sts.cons (ρ' := rE ts (some (c, i))) (H' := [.lst ((acc ++ [e1 c]).map .f)]) ?_ Sts.nil
      rw [List.map_append]
      exact St1.extend (k := 0) (ds := acc.map .f) (fs := [e1 c]) (by kernel_rfl) (by rfl) (V.nm (d := .f (.lst [e1 c])) (by kernel_rfl) (by decide)) (by rfl) (by first | exact lmap (by assumption) | (rw [List.length_map]; omega)) (Nat.le_of_ble_eq_true rfl) (by decide) (by rfl) (by rfl)
    · rw [List.append_assoc]; rfl
theorem idx_e1 : ∀ (cs : List Int) (j : Nat), (idxFrom j cs).map (fun x => e1 x.1) = cs.map e1
  | [], _ => rfl
  | x :: r, j => congrArg (e1 x :: ·) (idx_e1 r (j + 1))
theorem c_els (n : Nat) (cs : List Int) (hs : ∀ c ∈ cs, c ∈ SG) (hm : cs.length ≤ 100) (H : Hp) : callFn (ev T (n + 36)) f_Elements_elements_of [.f tblF, .f (iF cs), .f datF] H = some (.f (.lst (cs.map e1)), H) := by
  have hlim : lim = 100000 := rfl
  obtain ⟨o, h⟩ := el_loop (n + 23) cs (idxFrom 0 cs) [] none (by rw [idxFrom_len, List.length_nil]; omega)
  rw [List.nil_append, idx_e1] at h
  refine Fp (n := n + 35) rfl rfl (fs := [tblF, iF cs, datF]) rfl (ρ := [("self", .f tblF), ("text", .f (iF cs)), ("data", .f datF)]) rfl (d := .own 0) (H2 := [.lst ((cs.map e1).map .f)]) ⟨rE cs o, ?_⟩ (fz_own 11 rfl)
  show Sts (n + 35) scE _ [] (fnM 73 13).2.1 _ _ _
  refine Sts.cons (ρ' := rE cs none) (H' := [.lst []]) (by kernel_rfl) ?_
  refine Sts.cons (ρ' := rE cs o) (H' := [.lst ((cs.map e1).map .f)]) (Sfor (ds := (idxFrom 0 cs).map fun x : Int × Nat => .f (entF x.1 x.2)) (H1 := [.lst []]) (by kernel_rfl) ?_ h) (Sts.ret (by rcases o with _ | ⟨c', j⟩ <;> kernel_rfl))
  show (exV (ev T (n + 35)) scE _ (rE cs none) _).bind (fun x => itemsOf x.1 x.2) = _
  refine bd (V.of (X2.s (Emeth (d := .f tblF) (ds := [.f (iF cs), .f datF]) (H1 := [.lst []]) (H2 := [.lst []]) (by rfl) (by rfl) (X.nm (by kernel_rfl) (by decide)) (by rfl) (by kernel_rfl) (cl := c_Elements) (by kernel_rfl) (f := f_Elements_located) (by kernel_rfl) (by kernel_rfl) (c_located (n + 2) cs hs hm _))) (by rfl)) ?_
  show (lstOf (.f (.lst (entsFrom 0 cs))) [.lst []]).map (fun x => (dF x.1, x.2)) = _
  refine (md (a := (entsFrom 0 cs, [.lst []])) ?_).trans ?_
  · exact lstOf_f (by rw [entsFrom, List.length_map, idxFrom_len]; omega)
  · unfold dF; rw [entsFrom, List.map_map]; rfl
end Mine

end
noncomputable section
set_option Elab.async false
set_option maxRecDepth 100000
set_option linter.unusedVariables false
/-! figures -/
open PySem PySem.W
namespace Mine
noncomputable def isD (c : Int) : Bool := c == 48 || c == 49 || c == 50 || c == 55
noncomputable def digF (c : Int) : F := if isD c then .int (c - 48) else .none
theorem c_digit (n : Nat) (H : Hp) : ∀ c ∈ SG, callFn (ev T (n + 14)) f_collkey_digit [fI c, .f datF] H = some (.f (digF c), H) :=
  sg8 ⟨by kernel_rfl, by kernel_rfl, by kernel_rfl, by kernel_rfl, by kernel_rfl, by kernel_rfl, by kernel_rfl, by kernel_rfl⟩
noncomputable def quad (a : Int) : F := .tup [.int a, .int 32, .int 2, .bool false]
noncomputable def figF (lead : Int) (l : List Int) : List F := quad lead :: quad (2 + l.length) :: l.map fun k => quad (2 + k)
section
variable {n : Nat} {sc : Sc} {ρ : Rho} {H : Hp} {a x y : D} {o : Expr} {lo hi : Option Expr} {p sp : Pos}
theorem X.slice {fs : List F} {u v : Option Int} (h1 : V n sc ρ H o a) (h2 : optE (ev T n) sc ρ lo H = some (x, H)) (h3 : optE (ev T n) sc ρ hi H = some (y, H)) (h4 : frozen a H = some (.lst fs)) (hl : fs.length ≤ lim) (h5 : optInt x = some u) (h6 : optInt y = some v) :
    X (n + 1) sc ρ H (.Subscript o (.Slice lo hi none sp) p) (.f (.lst (sliceL u v fs))) := by
  refine X2.s ?_
  exact bd h1 (bd h2 (bd h3 (bd h4 (bd h5 (bd h6 (md (x := limL fs) (if_pos hl)))))))
end
theorem clp_nat (n k : Nat) : clp n (k : Int) = min k n := by
  unfold clp
  rw [if_neg (Int.not_lt.mpr (Int.natCast_nonneg k))]
  rcases Nat.le_total k n with h | h
  · rw [Int.min_eq_left (Int.ofNat_le.mpr h), Int.max_eq_right (Int.natCast_nonneg k), Int.toNat_natCast, Nat.min_eq_left h]
  · rw [Int.min_eq_right (Int.ofNat_le.mpr h), Int.max_eq_right (Int.natCast_nonneg n), Int.toNat_natCast, Nat.min_eq_right h]
theorem slice_all (fs : List F) (h : fs.length ≤ 254) : sliceL (some 0) (some 254) fs = fs := by
  show (fs.take (clp fs.length (254 : Nat))).drop (clp fs.length (0 : Nat)) = fs
  rw [clp_nat, clp_nat, Nat.zero_min, Nat.min_eq_right h, List.take_length, List.drop_zero]
noncomputable abbrev scF : Sc := (fnT 55).2.2.names
noncomputable def figWh : Expr × List Stmt := whPart ((fnT 55).2.1.getD 1 default)
noncomputable def rF0 (lead : Int) (l : List Int) : Rho := [("at", fI 0), ("found", .own 0), ("lead", fI lead), ("figures", .f (iF l))]
noncomputable def rF1 (lead : Int) (l : List Int) : Rho := [("lot", .f (iF l)), ("at", fI 0), ("found", .own 0), ("lead", fI lead), ("figures", .f (iF l))]
noncomputable def rF2 (lead : Int) (l : List Int) : Rho := [("at", fI 254), ("lot", .f (iF l)), ("found", .own 0), ("lead", fI lead), ("figures", .f (iF l))]
theorem c_figs (n : Nat) (lead : Int) (l : List Int) (hl : l.length ≤ 100) (H : Hp) : callFn (ev T (n + 12)) f_collkey_figures [fI lead, .f (iF l)] H = some (.f (.lst (figF lead l)), H) := by
  have hlim : lim = 100000 := rfl
  refine Fp (n := n + 11) rfl rfl (fs := [.int lead, iF l]) rfl (ρ := [("lead", fI lead), ("figures", .f (iF l))]) rfl (d := .own 0) (H2 := [.lst ((figF lead l).map .f)]) ⟨rF2 lead l, ?_⟩ (fz_own 11 rfl)
  show Sts (n + 11) scF _ [] (fnT 55).2.1 _ _ _
  refine Sts.cons (ρ' := rF0 lead l) (H' := [.lst []]) (by kernel_rfl) ?_
  refine Sts.cons (ρ' := rF2 lead l) (H' := [.lst ((figF lead l).map .f)]) (St1.wh (WT (H1 := [.lst []]) (ρ2 := rF2 lead l) (H2 := [.lst ((figF lead l).map .f)]) ?_ ?_ (WF (n := 198) (H1 := [.lst ((figF lead l).map .f)]) ?_))) (Sts.ret (by kernel_rfl))
  · show B (n + 11) scF (rF0 lead l) [.lst []] _ true
    by_cases h : 0 < l.length
    · exact B.orT (B.cmp (V.nm (d := fI ((0 : Nat) : Int)) (by kernel_rfl) (by decide)) (V.of (X.len (m := l.length) (by kernel_rfl) (V.nm (d := .f (iF l)) (by kernel_rfl) (by decide)) (iF_lst l _) (List.length_map ..) (by first | exact le_lim (by assumption) | omega) (by rfl)) (by rfl)) (ltB true (by simpa using h)) (by rfl))
    · exact B.orF (B.cmp (V.nm (d := fI ((0 : Nat) : Int)) (by kernel_rfl) (by decide)) (V.of (X.len (m := l.length) (by kernel_rfl) (V.nm (d := .f (iF l)) (by kernel_rfl) (by decide)) (iF_lst l _) (List.length_map ..) (by first | exact le_lim (by assumption) | omega) (by rfl)) (by rfl)) (ltB false (by simpa using h)) (by rfl)) (by kernel_rfl)
  · show Sts (n + 10) scF (rF0 lead l) [.lst []] _ _ _ _
    refine Sts.cons (ρ' := rF1 lead l) (H' := [.lst []]) (St1.asg (d := .f (iF l)) ?_ (by kernel_rfl) (by rfl) (by rfl)) ?_
    · refine (congrArg (fun z => some ((.f (.lst z) : D), ([.lst []] : Hp))) (slice_all (l.map .int) (by first | exact lmap (by assumption) | (rw [List.length_map]; omega)))) ▸ X.slice (a := .f (iF l)) (x := fI 0) (y := fI 254) (fs := l.map .int) (u := some 0) (v := some 254) (V.nm (by kernel_rfl) (by decide)) (by kernel_rfl) (by kernel_rfl) rfl (by first | exact lmap (by assumption) | (rw [List.length_map]; omega)) rfl rfl
    refine Sts.cons (ρ' := rF1 lead l) (H' := [.lst [.f (quad lead)]]) (by kernel_rfl) ?_
    refine Sts.cons (ρ' := rF1 lead l) (H' := [.lst [.f (quad lead), .f (quad (2 + l.length))]]) (St1.append (k := 0) (ds := [.f (quad lead)]) (d := .f (quad (2 + l.length))) (by kernel_rfl) (by rfl) ?_ (Nat.le_of_ble_eq_true rfl) (by decide) (by rfl) (by rfl)) ?_
    · exact X2.s (Etup (ds := [fI (2 + l.length), fI 32, fI 2, fB false]) (by rfl) (xsC (by rfl) (X.bin (a := fI 2) (b := fI l.length) (by kernel_rfl) (V.of (X.len (m := l.length) (by kernel_rfl) (V.nm (d := .f (iF l)) (by kernel_rfl) (by decide)) (iF_lst l _) (List.length_map ..) (by first | exact le_lim (by assumption) | omega) (by rfl)) (by rfl)) (by rfl)) (by kernel_rfl)))
    refine Sts.cons (ρ' := rF1 lead l) (H' := [.lst ((figF lead l).map .f)]) (St1.extend (k := 0) (ds := [.f (quad lead), .f (quad (2 + l.length))]) (fs := l.map fun k => quad (2 + k)) (d := .f (.lst (l.map fun k => quad (2 + k)))) (by kernel_rfl) (by rfl) (V.of (X.comp (H1 := [.lst [.f (quad lead), .f (quad (2 + l.length))]]) (Ecomp (ds := (l.map F.int).map .f) (fs := l.map fun k => quad (2 + k)) (H1 := [.lst [.f (quad lead), .f (quad (2 + l.length))]]) (by kernel_rfl) (it_nm (by kernel_rfl) (by first | exact lmap (by assumption) | (rw [List.length_map]; omega)) (by decide)) (by simp; omega) ?_)) (by rfl)) (by rfl) (Nat.le_of_ble_eq_true rfl) (by first | exact lmap (by assumption) | (rw [List.length_map]; omega)) (by decide) (by rfl) (by rfl)) ?_
    · rw [List.map_map]
      exact comp_map (fun k : Int => fI k) (fun k => quad (2 + k)) (fun _ => True) (fun k _ => ⟨[("figure", fI k)], .f (quad (2 + k)), by kernel_rfl, by kernel_rfl, rfl⟩) l fun _ _ => trivial
    exact Sts.cons (ρ' := rF2 lead l) (H' := [.lst ((figF lead l).map .f)]) (by kernel_rfl) Sts.nil
  · exact B.orF (B.cmp (V.nm (d := fI ((254 : Nat) : Int)) (by kernel_rfl) (by decide)) (V.of (X.len (m := l.length) (by kernel_rfl) (V.nm (d := .f (iF l)) (by kernel_rfl) (by decide)) (iF_lst l _) (List.length_map ..) (by first | exact le_lim (by assumption) | omega) (by rfl)) (by rfl)) (ltB false (by simp; omega)) (by rfl)) (by kernel_rfl)
end Mine

end
noncomputable section
set_option Elab.async false
set_option maxRecDepth 100000
set_option linter.unusedVariables false
/-! a text with numbers -/
open PySem PySem.W
namespace Mine
noncomputable def tok : List Int → List (Int ⊕ List Int)
  | [] => []
  | c :: r => if isD c then (match tok r with | .inr ds :: t => .inr ((c - 48) :: ds) :: t | t => .inr [c - 48] :: t) else .inl c :: tok r
noncomputable def strip : List Int → List Int
  | [] => []
  | x :: r => if x = 0 then strip r else x :: r
noncomputable def tokE : Int ⊕ List Int → List F
  | .inl c => [e1 c]
  | .inr ds => figF 100 (strip ds)
noncomputable def num (ts : List Int) : List F := (tok ts).flatMap tokE
theorem tok_run : ∀ (run : List Int) (rest : List Int), run ≠ [] → (∀ c ∈ run, isD c = true) → (∀ c, rest.head? = some c → isD c = false) → tok (run ++ rest) = .inr (run.map (· - 48)) :: tok rest
  | [], _, h, _, _ => absurd rfl h
  | [c], rest, _, h1, h2 => by
    show tok (c :: rest) = _
    conv => lhs; unfold tok
    rw [if_pos (h1 c (.head _))]
    cases rest with
    | nil => rfl
    | cons x r =>
      have : tok (x :: r) = .inl x :: tok r := by
        conv => lhs; unfold tok
        rw [if_neg (by rw [h2 x rfl]; exact Bool.false_ne_true)]
      rw [this]; rfl
  | c :: c' :: run, rest, _, h1, h2 => by
    have ih := tok_run (c' :: run) rest (by simp) (fun x m => h1 x (.tail _ m)) h2
    show tok (c :: (c' :: run ++ rest)) = _
    conv => lhs; unfold tok
    rw [if_pos (h1 c (.head _)), ih]; rfl
theorem tok_let : ∀ (run : List Int) (rest : List Int), (∀ c ∈ run, isD c = false) → tok (run ++ rest) = run.map .inl ++ tok rest
  | [], _, _ => rfl
  | c :: run, rest, h => by
    show tok (c :: (run ++ rest)) = _
    conv => lhs; unfold tok
    rw [if_neg (by rw [h c (.head _)]; exact Bool.false_ne_true), tok_let run rest fun x m => h x (.tail _ m)]; rfl
section
variable {n : Nat} {sc : Sc} {ρ ρ' : Rho} {H H1 : Hp} {a d x y : D} {e : Expr} {p p' pos : Pos}
theorem V.list1 {v : F} (h : X n sc ρ H e d) (hf : fz fuelFz d H = some (v, H)) (hs : isStar e = false) : V n sc ρ H (.List [e] p) (.f (.lst [v])) := by
  show (if [e].length ≤ lim then (mapE (fun e H => exF (ev T n) sc e ρ H) [e] H).bind (fun x => (toFs x.1).map fun l => (D.f (.lst l), x.2)) else none) = _
  rw [if_pos (Nat.le_of_ble_eq_true rfl)]
  exact bd (mapC (f := fun e H => exF (ev T n) sc e ρ H) (r := []) (ds := []) (H2 := H) hs (bd h (md hf)) rfl) rfl
/-- x.extend(e), e making anew -/
theorem St1.extendH {x : Str} {k : Nat} {ds : List D} {fs : List F} {p1 p2 p3 p4 : Pos} (hx : var T sc ρ x = some (.own k)) (hk0 : (match H[k]? with | some (.lst _) => true | _ => false) = true) (hk : H1[k]? = some (.lst ds)) (he : exV (ev T (n + 1)) sc e ρ H = some (.f (.lst fs), H1)) (hl : ds.length ≤ lim) (hl2 : fs.length ≤ lim) (hn : nameOk x = true) (hs : isStar e = false) (h0 : (!(p2.endLine == p3.line) || !decide (1 < 30)) = false) :
    St1 (n + 2) sc ρ H (.Expr (.Call (.Attribute (.Name x p1) "extend" p2) [e] [] p3) p4) .next ρ (H1.set k (.lst (ds ++ fs.map .f))) := by
  obtain ⟨l0, h00⟩ : ∃ l0, H[k]? = some (.lst l0) := by
    revert hk0
    cases H[k]? with
    | none => intro h; cases h
    | some o => cases o <;> intro h <;> first | exact ⟨_, rfl⟩ | cases h
  refine St1.methH hx h00 hk ((if_neg (by decide)).trans (xvC hs he xvN)) rfl ?_ hl hn h0
  unfold methL
  rw [if_neg (by decide), if_pos rfl]
  exact md (f := fun fs => (D.f .none, ds ++ dF fs)) (bd rfl (if_pos hl2))
theorem Ffz {R : Rec} {f : Fn} {ds : List D} {fs : List F} (h0 : (f.addr == 115) = false) (hp : f.pure = true) (h1 : fzs (fz fuelFz) ds H = some (fs, H1)) (h2 : callFn R f (fs.map .f) H1 = some (d, H1)) : callFn R f ds H = some (d, H1) := by
  unfold callFn at h2 ⊢
  rw [if_neg (by simpa using h0), hp] at h2 ⊢
  have := fzs_f fuelFz H1 fs
  unfold pureC at h2
  rw [this] at h2
  exact bd h1 h2
end
theorem gtB {i m : Nat} {H : Hp} (t : Bool) (h : decide (i < m) = t) : cmp .Gt (fI m) (fI i) H = some t := by
  show some (decide ((i : Int) < (m : Int))) = some t
  rw [← h]; congr 1; exact decide_eq_decide.mpr Int.ofNat_lt
theorem slice_mid (fs : List F) (i k : Nat) (h : i + k ≤ fs.length) : sliceL (some (i : Int)) (some ((i + k : Nat) : Int)) fs = (fs.drop i).take k := by
  show (fs.take (clp fs.length ((i + k : Nat) : Int))).drop (clp fs.length (i : Int)) = _
  rw [clp_nat, clp_nat, Nat.min_eq_left h, Nat.min_eq_left (Nat.le_trans (Nat.le_add_right i k) h), List.drop_take, Nat.add_sub_cancel_left]
theorem slice_tail (x : F) (fs : List F) : sliceL (some 1) none (x :: fs) = fs := by
  show ((x :: fs).take (x :: fs).length).drop (clp (x :: fs).length (1 : Nat)) = fs
  rw [clp_nat, List.take_length, Nat.min_eq_left (show 1 ≤ (x :: fs).length from Nat.succ_le_succ (Nat.zero_le _))]; rfl
end Mine

end
noncomputable section
set_option Elab.async false
set_option maxRecDepth 100000
set_option linter.unusedVariables false
/-! a text with numbers, the loops -/
open PySem PySem.W
namespace Mine
noncomputable abbrev scN : Sc := (fnT 56).2.2.names
noncomputable def bN (ts : List Int) : Rho := [("found", .own 0), ("text", .f (iF ts)), ("data", .f datF), ("table", .f tblF)]
noncomputable def ldF : F := .lst [.int 100]
noncomputable def ld : Bool → Rho → Rho
  | true, ρ => ("lead", .f ldF) :: ρ
  | false, ρ => ρ
inductive Sh where
  | s0
  | ef (b : Bool) (e f : D)
  | lef (e f : D)
  | fle (e f : D)
noncomputable def rN (ts : List Int) (i : Nat) : Sh → Rho
  | .s0 => ("at", fI i) :: bN ts
  | .ef b e f => ("at", fI i) :: ("end", e) :: ("figures", f) :: ld b (bN ts)
  | .lef e f => ("at", fI i) :: ("lead", .f ldF) :: ("end", e) :: ("figures", f) :: bN ts
  | .fle e f => ("at", fI i) :: ("figures", f) :: ("lead", .f ldF) :: ("end", e) :: bN ts
/-- behind the first statement; the end moved or not -/
noncomputable def rN1 (ts : List Int) (i e : Nat) (f : D) (b : Bool) : Bool → Rho
  | false => ("figures", f) :: ("end", fI e) :: ("at", fI i) :: ld b (bN ts)
  | true => ("end", fI e) :: ("figures", f) :: ("at", fI i) :: ld b (bN ts)
/-- behind the lead; the figures cut or not -/
noncomputable def rN3 (ts : List Int) (i e : Nat) (f : D) : Bool → Rho
  | false => ("lead", .f ldF) :: ("end", fI e) :: ("figures", f) :: ("at", fI i) :: bN ts
  | true => ("figures", f) :: ("lead", .f ldF) :: ("end", fI e) :: ("at", fI i) :: bN ts
noncomputable def numWh : Expr × List Stmt := whPart ((fnT 56).2.1.getD 1 default)
noncomputable def ifPart : Stmt → Expr × List Stmt × List Stmt
  | .If c a b _ => (c, a, b)
  | _ => default
noncomputable def w1 : Expr × List Stmt := whPart (numWh.2.getD 1 default)
noncomputable def nIf : Expr × List Stmt × List Stmt := ifPart (numWh.2.getD 2 default)
noncomputable def w2 : Expr × List Stmt := whPart (nIf.2.1.getD 1 default)
noncomputable def w3 : Expr × List Stmt := whPart (nIf.2.2.getD 0 default)
theorem drop_head {ts : List Int} {e : Nat} {c : Int} {r : List Int} (h : ts.drop e = c :: r) : ts[e]? = some c ∧ e < ts.length ∧ ts.drop (e + 1) = r := by
  have hl : e < ts.length := by
    apply Classical.byContradiction
    intro q
    rw [List.drop_of_length_le (by first | exact le_lim (by assumption) | omega)] at h; cases h
  rw [List.drop_eq_getElem_cons hl] at h
  injection h with h1 h2
  exact ⟨by rw [List.getElem?_eq_getElem hl, h1], hl, h2⟩
section
variable (n : Nat) (ts : List Int) (hs : ∀ c ∈ ts, c ∈ SG) (hm : ts.length ≤ 100)
include hs hm
theorem n_digit {ρ : Rho} {H : Hp} {e : Nat} {c : Int} {v : F} (hv : digF c = v) {np p1 p2 p3 p4 pos : Pos} (hc : ts[e]? = some c) (h1 : var T scN ρ "text" = some (.f (iF ts))) (h2 : var T scN ρ "end" = some (fI e)) (h3 : var T scN ρ "data" = some (.f datF)) :
    X (n + 16) scN ρ H (.Call (.Name "collkey_digit" np) [.Subscript (.Name "text" p1) (.Name "end" p2) p3, .Name "data" p4] [] pos) (.f v) := by
  subst hv
  have hlim : lim = 100000 := rfl
  have hg : (ts.map fI)[e]? = some (fI c) := by rw [List.getElem?_map, hc]; rfl
  have hin : c ∈ SG := hs c (List.mem_of_getElem? hc)
  exact X2.s (Ecall (f := f_collkey_digit) (ad := 335) (ds := [fI c, .f datF]) (H1 := H) (by kernel_rfl) (by kernel_rfl) (xp (by rfl) (V.of (X.idx (a := .f (iF ts)) (b := fI e) (V.nm h1 (by decide)) (X.nm h2 (by decide)) (getI_at (iF_lst ts _) hg (by first | exact lmap (by assumption) | (rw [List.length_map]; omega))) (by rfl)) (by rfl)) (xp (by rfl) (V.nm h3 (by decide)) xvN)) (c_digit (n + 1) _ c hin))
theorem n_len {ρ : Rho} {H : Hp} {k : Nat} {np p pos : Pos} (h1 : var T scN ρ "text" = some (.f (iF ts))) : V (k + 2) scN ρ H (.Call (.Name "len" np) [.Name "text" p] [] pos) (fI ts.length) :=
  V.of (X.len (by kernel_rfl) (V.nm h1 (by decide)) (iF_lst ts _) (List.length_map ..) (by show ts.length ≤ 100000; omega) (by rfl)) (by rfl)
theorem w1_loop (i : Nat) (b : Bool) (J : Hp) (h : O) : ∀ (rem : List Int) (e : Nat) (l : List Int) (mv : Bool) (fuel : Nat), ts.drop e = rem → rem.length < fuel → l.length + rem.length ≤ 100 →
    ∃ mv', (mv' = (mv || (rem.takeWhile isD != []))) ∧ whileL (ev T (n + 30)) scN w1.1 w1.2 fuel (rN1 ts i e (.own (J.length + 1)) b mv) (h :: (J ++ [.lst (l.map fI)])) =
      some (.next, rN1 ts i (e + (rem.takeWhile isD).length) (.own (J.length + 1)) b mv', h :: (J ++ [.lst ((l ++ (rem.takeWhile isD).map (· - 48)).map fI)])) := by
  intro rem
  induction rem with
  | nil =>
    intro e l mv fuel hd hf hl
    cases fuel with
    | zero => exact absurd hf (Nat.lt_irrefl _)
    | succ fuel =>
      have he : ¬ e < ts.length := fun q => by rw [List.drop_eq_getElem_cons q] at hd; cases hd
      refine ⟨mv, by simp, ?_⟩
      rw [show ([] : List Int).takeWhile isD = [] from rfl, List.map_nil, List.append_nil]
      refine WF ?_
      show B (n + 30) scN (rN1 ts i e (.own (J.length + 1)) b mv) _ w1.1 false
      exact B.andF (B.cmp (V.nm (d := fI e) (by cases mv <;> kernel_rfl) (by decide)) (n_len ts hs hm (by cases mv <;> cases b <;> kernel_rfl)) (ltB false (by simpa using he)) (by rfl))
  | cons c r ih0 =>
    intro e l mv fuel hd hf hl
    cases fuel with
    | zero => exact absurd hf (Nat.not_lt_zero _)
    | succ fuel =>
      have hlim : lim = 100000 := rfl
      obtain ⟨hc, he, hd'⟩ := drop_head hd
      rw [List.length_cons] at hf hl
      cases hD : isD c with
      | false =>
        rw [List.takeWhile_cons, hD]
        refine ⟨mv, by simp, ?_⟩
        rw [if_neg Bool.false_ne_true, List.map_nil, List.append_nil]
        refine WF ?_
        show B (n + 30) scN (rN1 ts i e (.own (J.length + 1)) b mv) _ w1.1 false
        have hq : digF c = .none := by unfold digF; rw [hD]; rfl
        exact B.andT (B.cmp (V.nm (d := fI e) (by cases mv <;> kernel_rfl) (by decide)) (n_len ts hs hm (by cases mv <;> cases b <;> kernel_rfl)) (ltB true (by simpa using he)) (by rfl)) (B.cmp (b := .f .none) (V.of (n_digit (n + 12) ts hs hm hq hc (by cases mv <;> cases b <;> kernel_rfl) (by cases mv <;> kernel_rfl) (by cases mv <;> cases b <;> kernel_rfl)) (by rfl)) (by rfl) (by rfl) (by rfl))
      | true =>
        rw [List.takeWhile_cons, hD]
        have hq : digF c = .int (c - 48) := by unfold digF; rw [hD]; rfl
        obtain ⟨mv', hmv, ih⟩ := ih0 (e + 1) (l ++ [c - 48]) true fuel hd' (by first | exact le_lim (by assumption) | omega) (by rw [List.length_append, List.length_singleton]; omega)
        refine ⟨mv', by rw [hmv]; simp, ?_⟩
        rw [if_pos rfl, List.length_cons, List.map_cons]
        refine WT (H1 := h :: (J ++ [.lst (l.map fI)])) (ρ2 := rN1 ts i (e + 1) (.own (J.length + 1)) b true) (H2 := h :: (J ++ [.lst ((l ++ [c - 48]).map fI)])) ?_ ?_ (ih.trans ?_)
        · show B (n + 30) scN (rN1 ts i e (.own (J.length + 1)) b mv) _ w1.1 true
          exact B.andT (B.cmp (V.nm (d := fI e) (by cases mv <;> kernel_rfl) (by decide)) (n_len ts hs hm (by cases mv <;> cases b <;> kernel_rfl)) (ltB true (by simpa using he)) (by rfl)) (B.cmp (b := .f .none) (V.of (n_digit (n + 12) ts hs hm hq hc (by cases mv <;> cases b <;> kernel_rfl) (by cases mv <;> kernel_rfl) (by cases mv <;> cases b <;> kernel_rfl)) (by rfl)) (by rfl) (by rfl) (by rfl))
        · show Sts (n + 29) scN (rN1 ts i e (.own (J.length + 1)) b mv) _ w1.2 _ _ _
          refine Sts.cons (ρ' := rN1 ts i e (.own (J.length + 1)) b mv) (H' := h :: (J ++ [.lst ((l ++ [c - 48]).map fI)])) ?_ (Sts.cons (ρ' := rN1 ts i (e + 1) (.own (J.length + 1)) b true) (H' := h :: (J ++ [.lst ((l ++ [c - 48]).map fI)])) (by cases mv <;> cases b <;> kernel_rfl) Sts.nil)
          have hk : (h :: (J ++ [O.lst (l.map fI)]))[J.length + 1]? = some (.lst (l.map fI)) := by simp
          have hset : (h :: (J ++ [O.lst (l.map fI)])).set (J.length + 1) (.lst (l.map fI ++ [fI (c - 48)])) = h :: (J ++ [.lst ((l ++ [c - 48]).map fI)]) := by
            rw [List.set_cons_succ, List.set_append_right _ _ (Nat.le_refl _), Nat.sub_self, List.map_append]; rfl
          rw [← hset]
          exact St1.append (d := fI (c - 48)) (by cases mv <;> kernel_rfl) hk (n_digit (n + 12) ts hs hm hq hc (by cases mv <;> cases b <;> kernel_rfl) (by cases mv <;> kernel_rfl) (by cases mv <;> cases b <;> kernel_rfl)) (by first | exact lmap (by assumption) | (rw [List.length_map]; omega)) (by decide) (by rfl) (by rfl)
        · rw [show e + 1 + (r.takeWhile isD).length = e + ((r.takeWhile isD).length + 1) by omega, List.append_assoc]; rfl
end
end Mine

end
noncomputable section
set_option Elab.async false
set_option maxRecDepth 100000
set_option linter.unusedVariables false
/-! a text with numbers, the branches -/
open PySem PySem.W
namespace Mine
theorem toFs_int : ∀ l : List Int, toFs (l.map fI) = some (l.map .int)
  | [] => rfl
  | x :: r => by
    rw [List.map_cons]; unfold toFs
    exact md (toFs_int r)
section
variable (n : Nat) (ts : List Int) (hs : ∀ c ∈ ts, c ∈ SG) (hm : ts.length ≤ 100)
theorem w2_loop (i e : Nat) (H : Hp) : ∀ (l : List Int) (f : D) (cut : Bool) (fuel : Nat), asLst f H = some (l.map fI) → frozen f H = some (iF l) → l.length ≤ 100 → l.length < fuel →
    ∃ f' cut', whileL (ev T (n + 44)) scN w2.1 w2.2 fuel (rN3 ts i e f cut) H = some (.next, rN3 ts i e f' cut', H) ∧ ((f' = f ∧ strip l = l) ∨ f' = .f (iF (strip l))) := by
  have hlim : lim = 100000 := rfl
  intro l
  induction l with
  | nil =>
    intro f cut fuel h1 h2 h3 h4
    cases fuel with
    | zero => exact absurd h4 (Nat.lt_irrefl _)
    | succ fuel =>
      refine ⟨f, cut, WF ?_, .inl ⟨rfl, rfl⟩⟩
      show B (n + 44) scN (rN3 ts i e f cut) H w2.1 false
      exact B.andF (B.cmp (b := .f (.lst [])) (V.nm (d := f) (by cases cut <;> kernel_rfl) (by decide)) (by kernel_rfl) (neNil h1) (by rfl))
  | cons x r ih =>
    intro f cut fuel h1 h2 h3 h4
    rw [List.length_cons] at h3 h4
    cases fuel with
    | zero => exact absurd h4 (Nat.not_lt_zero _)
    | succ fuel =>
      have cond : B (n + 44) scN (rN3 ts i e f cut) H w2.1 (x == 0) := by
        exact B.andT (B.cmp (b := .f (.lst [])) (V.nm (d := f) (by cases cut <;> kernel_rfl) (by decide)) (by kernel_rfl) (neNil h1) (by rfl)) (B.cmp (a := fI x) (b := fI 0) (V.of (X.idx (a := f) (b := fI 0) (V.nm (by cases cut <;> kernel_rfl) (by decide)) (by kernel_rfl) (getI_at (i := 0) h1 rfl (by rw [List.length_map, List.length_cons]; omega)) (by rfl)) (by rfl)) (by kernel_rfl) (by rfl) (by rfl))
      by_cases hx : x = 0
      · have hx' : (x == 0) = true := by simp [hx]
        rw [hx'] at cond
        obtain ⟨f', cut', k1, k2⟩ := ih (.f (iF r)) true fuel (iF_lst r H) rfl (by first | exact le_lim (by assumption) | omega) (by first | exact le_lim (by assumption) | omega)
        refine ⟨f', cut', WT cond (ρ2 := rN3 ts i e (.f (iF r)) true) (H2 := H) ?_ k1, .inr ?_⟩
        · show Sts (n + 43) scN (rN3 ts i e f cut) H w2.2 _ _ _
          refine Sts.cons (ρ' := rN3 ts i e (.f (iF r)) true) (H' := H) (St1.asg (d := .f (iF r)) ?_ (by cases cut <;> kernel_rfl) (by rfl) (by rfl)) Sts.nil
          have st : sliceL (some 1) none ((x :: r).map F.int) = r.map F.int := slice_tail _ _
          rw [show iF r = .lst (sliceL (some 1) none ((x :: r).map F.int)) by rw [st]]
          exact X.slice (a := f) (x := fI 1) (y := .f .none) (V.nm (by cases cut <;> kernel_rfl) (by decide)) (by kernel_rfl) rfl h2 (by rw [List.length_map, List.length_cons]; omega) rfl rfl
        · have : strip (x :: r) = strip r := by unfold strip; rw [if_pos hx]; cases r <;> rfl
          rw [this]
          rcases k2 with ⟨k2, k3⟩ | k2
          · rw [k2, k3]
          · exact k2
      · have hx' : (x == 0) = false := by simp [hx]
        rw [hx'] at cond
        refine ⟨f, cut, WF cond, .inl ⟨rfl, ?_⟩⟩
        unfold strip; rw [if_neg hx]
include hs hm
theorem w3_loop (i : Nat) (b : Bool) (f : D) (H : Hp) : ∀ (rem : List Int) (e : Nat) (mv : Bool) (fuel : Nat), ts.drop e = rem → rem.length < fuel →
    ∃ mv', (mv' = (mv || (rem.takeWhile (fun c => !isD c) != []))) ∧ whileL (ev T (n + 44)) scN w3.1 w3.2 fuel (rN1 ts i e f b mv) H = some (.next, rN1 ts i (e + (rem.takeWhile fun c => !isD c).length) f b mv', H) := by
  intro rem
  induction rem with
  | nil =>
    intro e mv fuel hd hf
    cases fuel with
    | zero => exact absurd hf (Nat.lt_irrefl _)
    | succ fuel =>
      have he : ¬ e < ts.length := fun q => by rw [List.drop_eq_getElem_cons q] at hd; cases hd
      refine ⟨mv, by simp, WF ?_⟩
      show B (n + 44) scN (rN1 ts i e f b mv) _ w3.1 false
      exact B.andF (B.cmp (V.nm (d := fI e) (by cases mv <;> kernel_rfl) (by decide)) (n_len ts hs hm (by cases mv <;> cases b <;> kernel_rfl)) (ltB false (by simpa using he)) (by rfl))
  | cons c r ih0 =>
    intro e mv fuel hd hf
    cases fuel with
    | zero => exact absurd hf (Nat.not_lt_zero _)
    | succ fuel =>
      obtain ⟨hc, he, hd'⟩ := drop_head hd
      rw [List.length_cons] at hf
      rw [List.takeWhile_cons]
      cases hD : isD c with
      | true =>
        refine ⟨mv, by simp, ?_⟩
        rw [if_neg (by decide)]
        refine WF ?_
        show B (n + 44) scN (rN1 ts i e f b mv) _ w3.1 false
        have hq : digF c = .int (c - 48) := by unfold digF; rw [hD]; rfl
        exact B.andT (B.cmp (V.nm (d := fI e) (by cases mv <;> kernel_rfl) (by decide)) (n_len ts hs hm (by cases mv <;> cases b <;> kernel_rfl)) (ltB true (by simpa using he)) (by rfl)) (B.cmp (b := .f .none) (V.of (n_digit (n + 26) ts hs hm hq hc (by cases mv <;> cases b <;> kernel_rfl) (by cases mv <;> kernel_rfl) (by cases mv <;> cases b <;> kernel_rfl)) (by rfl)) (by rfl) (by rfl) (by rfl))
      | false =>
        have hq : digF c = .none := by unfold digF; rw [hD]; rfl
        obtain ⟨mv', hmv, ih⟩ := ih0 (e + 1) true fuel hd' (by first | exact le_lim (by assumption) | omega)
        refine ⟨mv', by rw [hmv]; simp, ?_⟩
        rw [if_pos (by decide), List.length_cons]
        refine WT (H1 := H) (ρ2 := rN1 ts i (e + 1) f b true) (H2 := H) ?_ ?_ (ih.trans ?_)
        · show B (n + 44) scN (rN1 ts i e f b mv) _ w3.1 true
          exact B.andT (B.cmp (V.nm (d := fI e) (by cases mv <;> kernel_rfl) (by decide)) (n_len ts hs hm (by cases mv <;> cases b <;> kernel_rfl)) (ltB true (by simpa using he)) (by rfl)) (B.cmp (b := .f .none) (V.of (n_digit (n + 26) ts hs hm hq hc (by cases mv <;> cases b <;> kernel_rfl) (by cases mv <;> kernel_rfl) (by cases mv <;> cases b <;> kernel_rfl)) (by rfl)) (by rfl) (by rfl) (by rfl))
        · show Sts (n + 43) scN (rN1 ts i e f b mv) _ w3.2 _ _ _
          exact Sts.cons (ρ' := rN1 ts i (e + 1) f b true) (H' := H) (by cases mv <;> cases b <;> kernel_rfl) Sts.nil
        · rw [show e + 1 + (r.takeWhile fun c => !isD c).length = e + ((r.takeWhile fun c => !isD c).length + 1) by omega]
/-- the letters' branch -/
theorem n_let (i : Nat) (b : Bool) (f : D) (J : Hp) (acc : List F) (rem : List Int) (hd : ts.drop i = rem) (hne : rem.takeWhile (fun c => !isD c) ≠ []) (ha : acc.length ≤ 1000) :
    (ev T (n + 45)).st scN nIf.2.2 (rN1 ts i i f b false) (.lst (acc.map .f) :: J) = some (.next, rN1 ts i (i + (rem.takeWhile fun c => !isD c).length) f b true, .lst ((acc ++ (rem.takeWhile fun c => !isD c).map e1).map .f) :: J) := by
  have hlim : lim = 100000 := rfl
  have hrl : rem.length ≤ ts.length := by rw [← hd, List.length_drop]; omega
  obtain ⟨mv', hmv, h⟩ := w3_loop n ts hs hm i b f (.lst (acc.map .f) :: J) rem i false 200 hd (by first | exact le_lim (by assumption) | omega)
  have : mv' = true := by rw [hmv]; simpa using hne
  subst this
  have hpre := List.takeWhile_prefix (l := rem) (fun c => !isD c)
  have hlen : i + (rem.takeWhile fun c => !isD c).length ≤ ts.length := by
    have := hpre.length_le
    have h2 : rem.length = ts.length - i := by rw [← hd, List.length_drop]
    by_cases q : i ≤ ts.length
    · omega
    · exfalso
      have : rem = [] := by rw [← hd, List.drop_of_length_le (by first | exact le_lim (by assumption) | omega)]
      rw [this] at hne; exact hne rfl
  have htk : (ts.drop i).take (rem.takeWhile fun c => !isD c).length = rem.takeWhile fun c => !isD c := by rw [hd]; exact (List.prefix_iff_eq_take.mp hpre).symm
  generalize rem.takeWhile (fun c => !isD c) = run at *
  show Sts (n + 44) scN (rN1 ts i i f b false) _ nIf.2.2 _ _ _
  refine Sts.cons (ρ' := rN1 ts i (i + run.length) f b true) (H' := .lst (acc.map .f) :: J) (St1.wh h) (Sts.cons (ρ' := rN1 ts i (i + run.length) f b true) (H' := .lst ((acc ++ run.map e1).map .f) :: J) ?_ Sts.nil)
  rw [List.map_append]
  refine St1.extend (k := 0) (ds := acc.map .f) (fs := run.map e1) (d := .f (.lst (run.map e1))) (by cases b <;> kernel_rfl) (by rfl) (V.of (X2.s (Emeth (d := .f tblF) (ds := [.f (iF run), .f datF]) (H1 := .lst (acc.map .f) :: J) (H2 := .lst (acc.map .f) :: J) (by rfl) (by rfl) (X.nm (by cases b <;> kernel_rfl) (by decide)) (by rfl) (by kernel_rfl) (cl := c_Elements) (by kernel_rfl) (f := f_Elements_elements_of) (by kernel_rfl) (xp (by rfl) (V.of ?_ (by rfl)) (by cases b <;> kernel_rfl)) (c_els (n + 6) run ?_ (by first | exact le_lim (by assumption) | omega) _))) (by rfl)) (by rfl) (by first | exact lmap (by assumption) | (rw [List.length_map]; omega)) (by first | exact lmap (by assumption) | (rw [List.length_map]; omega)) (by decide) (by rfl) (by rfl)
  · have e : iF run = .lst (sliceL (some (i : Int)) (some ((i + run.length : Nat) : Int)) (ts.map F.int)) := by
      rw [slice_mid _ _ _ (by first | exact lmap (by assumption) | (rw [List.length_map]; omega)), ← List.map_drop, ← List.map_take, htk]
    rw [e]
    exact X.slice (a := .f (iF ts)) (x := fI i) (y := fI (i + run.length : Nat)) (V.nm (by cases b <;> kernel_rfl) (by decide)) (by cases b <;> kernel_rfl) (by cases b <;> kernel_rfl) rfl (by first | exact lmap (by assumption) | (rw [List.length_map]; omega)) rfl rfl
  · intro c m
    have m2 : c ∈ (ts.drop i).take run.length := by rw [htk]; exact m
    exact hs c (List.mem_of_mem_drop (List.mem_of_mem_take m2))
end
end Mine

end
noncomputable section
set_option Elab.async false
set_option maxRecDepth 100000
set_option linter.unusedVariables false
/-! a text with numbers, done -/
open PySem PySem.W
namespace Mine
theorem strip_len : ∀ l : List Int, (strip l).length ≤ l.length
  | [] => Nat.le_refl _
  | x :: r => by
    unfold strip
    split
    · exact Nat.le_succ_of_le (strip_len r)
    · exact Nat.le_refl _
theorem dw_head {p : Int → Bool} : ∀ (l : List Int) (c : Int), (l.dropWhile p).head? = some c → p c = false
  | [], c, h => by cases h
  | x :: r, c, h => by
    rw [List.dropWhile_cons] at h
    split at h
    · exact dw_head r c h
    · rename_i q
      have : x = c := by simpa using h
      subst this
      simpa using q
noncomputable def shC (e : Nat) (f : D) : Bool → Sh
  | false => .lef (fI e) f
  | true => .fle (fI e) f
noncomputable def shB : Sh → Bool
  | .s0 => false
  | .ef b _ _ => b
  | _ => true
section
variable (n : Nat) (ts : List Int) (hs : ∀ c ∈ ts, c ∈ SG) (hm : ts.length ≤ 100)
include hm
theorem n_dig (i e : Nat) (b : Bool) (J : Hp) (acc : List F) (c0 : Int) (r : List Int) (hc : ts[i]? = some c0) (hr : r.length < 100) (ha : acc.length ≤ 1000) :
    ∃ f' cut' J', (ev T (n + 45)).st scN nIf.2.1 (rN1 ts i e (.own (J.length + 1)) b true) (.lst (acc.map .f) :: (J ++ [O.lst (((c0 - 48) :: r).map fI)])) = some (.next, rN3 ts i e f' cut', .lst ((acc ++ figF 100 (strip ((c0 - 48) :: r))).map .f) :: J') := by
  have hlim : lim = 100000 := rfl
  generalize hl : (c0 - 48) :: r = l
  have hll : l.length ≤ 100 := by rw [← hl, List.length_cons]; omega
  have hg : (ts.map fI)[i]? = some (fI c0) := by rw [List.getElem?_map, hc]; rfl
  have hk : (O.lst (acc.map .f) :: (J ++ [O.lst (l.map fI)]))[J.length + 1]? = some (.lst (l.map fI)) := by simp
  have as : asLst (.own (J.length + 1)) (O.lst (acc.map .f) :: (J ++ [O.lst (l.map fI)])) = some (l.map fI) := bd hk rfl
  have fr : frozen (.own (J.length + 1)) (O.lst (acc.map .f) :: (J ++ [O.lst (l.map fI)])) = some (iF l) := bd hk (md (toFs_int l))
  obtain ⟨f', cut', w, hf⟩ := w2_loop n ts i e (.lst (acc.map .f) :: (J ++ [O.lst (l.map fI)])) l (.own (J.length + 1)) false 200 as fr hll (by first | exact le_lim (by assumption) | omega)
  have hsl := strip_len l
  have s1 : St1 (n + 44) scN (rN1 ts i e (.own (J.length + 1)) b true) (.lst (acc.map .f) :: (J ++ [O.lst (l.map fI)])) (nIf.2.1.getD 0 default) .next (rN3 ts i e (.own (J.length + 1)) false) (.lst (acc.map .f) :: (J ++ [O.lst (l.map fI)])) := by
    refine St1.asgC (d := .f ldF) (Ecomp (ds := [.f (e1 48)]) (fs := [.int 100]) (H1 := .lst (acc.map .f) :: (J ++ [O.lst (l.map fI)])) (by kernel_rfl) ?_ (Nat.le_of_ble_eq_true rfl) (by cases b <;> kernel_rfl)) (by cases b <;> kernel_rfl) (by rfl)
    show (exV (ev T (n + 44)) scN _ (rN1 ts i e (.own (J.length + 1)) b true) _).bind (fun x => itemsOf x.1 x.2) = _
    refine bd (V.of (X2.s (Emeth (d := .f tblF) (ds := [.f (iF [48]), .f datF]) (H1 := .lst (acc.map .f) :: (J ++ [O.lst (l.map fI)])) (H2 := .lst (acc.map .f) :: (J ++ [O.lst (l.map fI)])) (by rfl) (by rfl) (X.nm (by cases b <;> kernel_rfl) (by decide)) (by rfl) (by kernel_rfl) (cl := c_Elements) (by kernel_rfl) (f := f_Elements_elements_of) (by kernel_rfl) (xp (by rfl) (V.list1 (d := fI 48) (v := .int 48) ?_ rfl (by rfl)) (by cases b <;> kernel_rfl)) (c_els (n + 7) [48] (by decide) (by decide) _))) (by rfl)) (by kernel_rfl)
    refine X.bin (a := fI c0) (b := fI (c0 - 48)) (V.of (X.idx (a := .f (iF ts)) (b := fI i) (V.nm (by cases b <;> kernel_rfl) (by decide)) (X.nm (by cases b <;> kernel_rfl) (by decide)) (getI_at (iF_lst ts _) hg (by first | exact lmap (by assumption) | (rw [List.length_map]; omega))) (by rfl)) (by rfl)) (V.of (X.idx (a := .own (J.length + 1)) (b := fI 0) (V.nm (by cases b <;> kernel_rfl) (by decide)) (by kernel_rfl) (getI_at (i := 0) as (by rw [← hl]; rfl) (by first | exact lmap (by assumption) | (rw [List.length_map]; omega))) (by rfl)) (by rfl)) ?_
    show some (fI (c0 - (c0 - 48))) = _
    rw [show c0 - (c0 - 48) = 48 by omega]
  have fl : (figF 100 (strip l)).length ≤ lim := by unfold figF; rw [List.length_cons, List.length_cons, List.length_map]; omega
  have al : (acc.map D.f).length ≤ lim := by rw [List.length_map]; omega
  rw [List.map_append]
  rcases hf with ⟨rfl, hst⟩ | rfl
  · have h12 : fz fuelFz (.own (J.length + 1)) (O.lst (acc.map .f) :: (J ++ [O.lst (l.map fI)])) = some (iF l, .lst (acc.map .f) :: (J ++ [O.frz (iF l)])) := by
      have := fz_own 11 (k := J.length + 1) (H := O.lst (acc.map .f) :: (J ++ [O.lst (l.map fI)])) (fs := l.map .int) (by rw [hk, List.map_map]; rfl)
      refine this.trans ?_
      rw [List.set_cons_succ, List.set_append_right _ _ (Nat.le_refl _), Nat.sub_self]; rfl
    have h13 : fzs (fz fuelFz) [fI 100, .own (J.length + 1)] (O.lst (acc.map .f) :: (J ++ [O.lst (l.map fI)])) = some ([.int 100, iF l], .lst (acc.map .f) :: (J ++ [O.frz (iF l)])) := by
      unfold fzs
      refine bd (a := (.int 100, O.lst (acc.map .f) :: (J ++ [O.lst (l.map fI)]))) rfl ?_
      have : fzs (fz fuelFz) [.own (J.length + 1)] (O.lst (acc.map .f) :: (J ++ [O.lst (l.map fI)])) = some ([iF l], .lst (acc.map .f) :: (J ++ [O.frz (iF l)])) := by
        unfold fzs; exact bd h12 rfl
      exact md this
    refine ⟨.own (J.length + 1), cut', J ++ [O.frz (iF l)], ?_⟩
    show Sts (n + 44) scN (rN1 ts i e (.own (J.length + 1)) b true) _ nIf.2.1 _ _ _
    refine Sts.cons s1 (Sts.cons (St1.wh w) (Sts.cons (ρ' := rN3 ts i e (.own (J.length + 1)) cut') (H' := .lst (acc.map .f ++ (figF 100 (strip l)).map .f) :: (J ++ [O.frz (iF l)])) ?_ Sts.nil))
    refine St1.extendH (n := n + 42) (sc := scN) (x := "found") (H := .lst (acc.map .f) :: (J ++ [O.lst (l.map fI)])) (k := 0) (ds := acc.map .f) (fs := figF 100 (strip l)) (H1 := .lst (acc.map .f) :: (J ++ [O.frz (iF l)])) (by cases cut' <;> kernel_rfl) (by rfl) (by rfl) (xV (by rfl) (X2.s (Ecall (f := f_collkey_figures) (ad := 340) (ds := [fI 100, .own (J.length + 1)]) (H1 := .lst (acc.map .f) :: (J ++ [O.lst (l.map fI)])) (by kernel_rfl) (by kernel_rfl) (by cases cut' <;> kernel_rfl) (Ffz (fs := [.int 100, iF l]) (by rfl) (by rfl) h13 ?_)))) al fl (by decide) (by rfl) (by rfl)
    rw [hst]; exact c_figs (n + 30) 100 l hll _
  · refine ⟨.f (iF (strip l)), cut', J ++ [O.lst (l.map fI)], ?_⟩
    show Sts (n + 44) scN (rN1 ts i e (.own (J.length + 1)) b true) _ nIf.2.1 _ _ _
    refine Sts.cons s1 (Sts.cons (St1.wh w) (Sts.cons (ρ' := rN3 ts i e (.f (iF (strip l))) cut') (H' := .lst (acc.map .f ++ (figF 100 (strip l)).map .f) :: (J ++ [O.lst (l.map fI)])) ?_ Sts.nil))
    exact St1.extendH (n := n + 42) (sc := scN) (x := "found") (H := .lst (acc.map .f) :: (J ++ [O.lst (l.map fI)])) (k := 0) (ds := acc.map .f) (fs := figF 100 (strip l)) (H1 := .lst (acc.map .f) :: (J ++ [O.lst (l.map fI)])) (by cases cut' <;> kernel_rfl) (by rfl) (by rfl) (xV (by rfl) (X2.s (Ecall (f := f_collkey_figures) (ad := 340) (ds := [fI 100, .f (iF (strip l))]) (H1 := .lst (acc.map .f) :: (J ++ [O.lst (l.map fI)])) (by kernel_rfl) (by kernel_rfl) (by cases cut' <;> kernel_rfl) (c_figs (n + 30) 100 (strip l) (by first | exact le_lim (by assumption) | omega) _)))) al fl (by decide) (by rfl) (by rfl)
include hs
theorem num_loop : ∀ (k i : Nat) (acc : List F) (sh : Sh) (J : Hp) (fuel : Nat), (ts.drop i).length ≤ k → i ≤ ts.length → acc.length ≤ 3 * i → k < fuel →
    ∃ i' sh' J', whileL (ev T (n + 46)) scN numWh.1 numWh.2 fuel (rN ts i sh) (.lst (acc.map .f) :: J) = some (.next, rN ts i' sh', .lst ((acc ++ num (ts.drop i)).map .f) :: J') := by
  have hlim : lim = 100000 := rfl
  intro k
  induction k with
  | zero =>
    intro i acc sh J fuel hk hi ha hf
    have : ts.drop i = [] := List.eq_nil_of_length_eq_zero (by first | exact le_lim (by assumption) | omega)
    rw [this, show num [] = [] from rfl, List.append_nil]
    have he : ¬ i < ts.length := fun q => by rw [List.drop_eq_getElem_cons q] at this; cases this
    cases fuel with
    | zero => exact absurd hf (Nat.lt_irrefl _)
    | succ fuel =>
      refine ⟨i, sh, J, WF ?_⟩
      show B (n + 46) scN (rN ts i sh) _ numWh.1 false
      exact B.cmp (V.nm (d := fI i) (by rcases sh with _ | ⟨_ | _, _, _⟩ | _ | _ <;> kernel_rfl) (by decide)) (n_len ts hs hm (by rcases sh with _ | ⟨_ | _, _, _⟩ | _ | _ <;> kernel_rfl)) (ltB false (by simpa using he)) (by rfl)
  | succ k ih =>
    intro i acc sh J fuel hk hi ha hf
    by_cases he : i < ts.length
    · cases fuel with
      | zero => exact absurd hf (Nat.not_lt_zero _)
      | succ fuel =>
        have cond : B (n + 46) scN (rN ts i sh) (.lst (acc.map .f) :: J) numWh.1 true :=
          B.cmp (V.nm (d := fI i) (by rcases sh with _ | ⟨_ | _, _, _⟩ | _ | _ <;> kernel_rfl) (by decide)) (n_len ts hs hm (by rcases sh with _ | ⟨_ | _, _, _⟩ | _ | _ <;> kernel_rfl)) (ltB true (by simpa using he)) (by rfl)
        have st0 : St1 (n + 45) scN (rN ts i sh) (.lst (acc.map .f) :: J) (numWh.2.getD 0 default) .next (rN1 ts i i (.own (J.length + 1)) (shB sh) false) (.lst (acc.map .f) :: (J ++ [O.lst []])) := by
          rcases sh with _ | ⟨_ | _, _, _⟩ | _ | _ <;> kernel_rfl
        obtain ⟨mv', hmv, hw⟩ := w1_loop (n + 15) ts hs hm i (shB sh) J (.lst (acc.map .f)) (ts.drop i) i [] false 200 rfl (by rw [List.length_drop]; omega) (by rw [List.length_drop, List.length_nil]; omega)
        have hsplit := List.takeWhile_append_dropWhile (p := isD) (l := ts.drop i)
        generalize hrem : ts.drop i = rem at *
        obtain ⟨c, r, hcr⟩ : ∃ c r, rem = c :: r := by rw [← hrem, List.drop_eq_getElem_cons he]; exact ⟨_, _, rfl⟩
        have hc := (drop_head (hrem.trans hcr)).1
        have hrl : rem.length = ts.length - i := by rw [← hrem, List.length_drop]
        cases hD : isD c with
        | true =>
          have hrun : rem.takeWhile isD = c :: r.takeWhile isD := by rw [hcr, List.takeWhile_cons, hD]; rfl
          have : mv' = true := by rw [hmv, hrun]; rfl
          subst this
          have hrl2 : (rem.takeWhile isD).length ≤ rem.length := (List.takeWhile_prefix _).length_le
          obtain ⟨f', cut', J', hb⟩ := n_dig n ts hm i (i + (rem.takeWhile isD).length) (shB sh) J acc c ((r.takeWhile isD).map (· - 48)) hc (by rw [List.length_map]; rw [hrun, List.length_cons] at hrl2; omega) (by first | exact le_lim (by assumption) | omega)
          have hrest : ts.drop (i + (rem.takeWhile isD).length) = rem.dropWhile isD := by
            rw [← List.drop_drop, hrem]
            exact (congrArg (List.drop (rem.takeWhile isD).length) hsplit.symm).trans List.drop_left
          have hnum : num rem = figF 100 (strip ((c - 48) :: (r.takeWhile isD).map (· - 48))) ++ num (rem.dropWhile isD) := by
            have := tok_run (rem.takeWhile isD) (rem.dropWhile isD) (by rw [hrun]; simp) (fun x m => by
              have := List.all_takeWhile (p := isD) (l := rem)
              exact List.all_eq_true.mp this x m) (dw_head rem)
            rw [hsplit] at this
            unfold num
            rw [this, hrun]; rfl
          have hsl := strip_len ((c - 48) :: (r.takeWhile isD).map (· - 48))
          rw [List.length_cons, List.length_map] at hsl
          have hrl3 : (rem.takeWhile isD).length = (r.takeWhile isD).length + 1 := by rw [hrun]; rfl
          obtain ⟨i', sh', J'', hrec⟩ := ih (i + (rem.takeWhile isD).length) (acc ++ figF 100 (strip ((c - 48) :: (r.takeWhile isD).map (· - 48)))) (shC (i + (rem.takeWhile isD).length) f' cut') J' fuel
            (by rw [List.length_drop]; omega) (by first | exact le_lim (by assumption) | omega) (by rw [List.length_append]; unfold figF; rw [List.length_cons, List.length_cons, List.length_map]; omega) (by first | exact le_lim (by assumption) | omega)
          refine ⟨i', sh', J'', WT cond (ρ2 := rN ts (i + (rem.takeWhile isD).length) (shC (i + (rem.takeWhile isD).length) f' cut')) (H2 := .lst ((acc ++ figF 100 (strip ((c - 48) :: (r.takeWhile isD).map (· - 48)))).map .f) :: J') ?_ (hrec.trans ?_)⟩
          · show Sts (n + 45) scN (rN ts i sh) _ numWh.2 _ _ _
            refine Sts.cons st0 (Sts.cons (St1.wh hw) (Sts.cons (ρ' := rN3 ts i (i + (rem.takeWhile isD).length) f' cut') (H' := .lst ((acc ++ figF 100 (strip ((c - 48) :: (r.takeWhile isD).map (· - 48)))).map .f) :: J') (St1.ifT (B.cmp (V.nm (d := fI (i + (rem.takeWhile isD).length : Nat)) (by cases shB sh <;> kernel_rfl) (by decide)) (V.nm (d := fI i) (by cases shB sh <;> kernel_rfl) (by decide)) (gtB true (by rw [hrl3]; simp)) (by rfl)) ?_) (Sts.cons (by cases cut' <;> kernel_rfl) Sts.nil)))
            rw [List.nil_append, hrun, List.map_cons]
            rw [hrun] at hb
            exact hb
          · rw [hrest, hnum, List.append_assoc]
        | false =>
          have hrun : rem.takeWhile isD = [] := by rw [hcr, List.takeWhile_cons, hD]; rfl
          have : mv' = false := by rw [hmv, hrun]; rfl
          subst this
          rw [hrun] at hw
          have hlr : rem.takeWhile (fun c => !isD c) = c :: r.takeWhile (fun c => !isD c) := by rw [hcr, List.takeWhile_cons, hD]; rfl
          have hb := n_let n ts hs hm i (shB sh) (.own (J.length + 1)) (J ++ [O.lst []]) acc rem hrem (by rw [hlr]; simp) (by first | exact le_lim (by assumption) | omega)
          have hsp := List.takeWhile_append_dropWhile (p := fun c => !isD c) (l := rem)
          have hrest : ts.drop (i + (rem.takeWhile fun c => !isD c).length) = rem.dropWhile fun c => !isD c := by
            rw [← List.drop_drop, hrem]
            exact (congrArg (List.drop (rem.takeWhile fun c => !isD c).length) hsp.symm).trans List.drop_left
          have hnum : num rem = (rem.takeWhile fun c => !isD c).map e1 ++ num (rem.dropWhile fun c => !isD c) := by
            have := tok_let (rem.takeWhile fun c => !isD c) (rem.dropWhile fun c => !isD c) (fun x m => by
              have := List.all_takeWhile (p := fun c => !isD c) (l := rem)
              have := List.all_eq_true.mp this x m
              simpa using this)
            rw [hsp] at this
            unfold num
            rw [this, List.flatMap_append]
            congr 1
            generalize rem.takeWhile (fun c => !isD c) = run
            induction run with
            | nil => rfl
            | cons x q ihq => rw [List.map_cons, List.flatMap_cons, ihq]; rfl
          have hrl2 : (rem.takeWhile fun c => !isD c).length ≤ rem.length := (List.takeWhile_prefix _).length_le
          have hrl3 : (rem.takeWhile fun c => !isD c).length = (r.takeWhile fun c => !isD c).length + 1 := by rw [hlr]; rfl
          obtain ⟨i', sh', J'', hrec⟩ := ih (i + (rem.takeWhile fun c => !isD c).length) (acc ++ (rem.takeWhile fun c => !isD c).map e1) (.ef (shB sh) (fI (i + (rem.takeWhile fun c => !isD c).length : Nat)) (.own (J.length + 1))) (J ++ [O.lst []]) fuel
            (by rw [List.length_drop]; omega) (by first | exact le_lim (by assumption) | omega) (by rw [List.length_append, List.length_map]; omega) (by first | exact le_lim (by assumption) | omega)
          refine ⟨i', sh', J'', WT cond (ρ2 := rN ts (i + (rem.takeWhile fun c => !isD c).length) (.ef (shB sh) (fI (i + (rem.takeWhile fun c => !isD c).length : Nat)) (.own (J.length + 1)))) (H2 := .lst ((acc ++ (rem.takeWhile fun c => !isD c).map e1).map .f) :: (J ++ [O.lst []])) ?_ (hrec.trans ?_)⟩
          · show Sts (n + 45) scN (rN ts i sh) _ numWh.2 _ _ _
            exact Sts.cons st0 (Sts.cons (ρ' := rN1 ts i i (.own (J.length + 1)) (shB sh) false) (H' := .lst (acc.map .f) :: (J ++ [O.lst []])) (St1.wh hw) (Sts.cons (ρ' := rN1 ts i (i + (rem.takeWhile fun c => !isD c).length) (.own (J.length + 1)) (shB sh) true) (H' := .lst ((acc ++ (rem.takeWhile fun c => !isD c).map e1).map .f) :: (J ++ [O.lst []])) (St1.ifF (B.cmp (V.nm (d := fI i) (by cases shB sh <;> kernel_rfl) (by decide)) (V.nm (d := fI i) (by cases shB sh <;> kernel_rfl) (by decide)) (gtB false (by simp)) (by rfl)) hb) (Sts.cons (by cases shB sh <;> kernel_rfl) Sts.nil)))
          · rw [hrest, hnum, List.append_assoc]
    · have : ts.drop i = [] := List.drop_of_length_le (by first | exact le_lim (by assumption) | omega)
      rw [this, show num [] = [] from rfl, List.append_nil]
      cases fuel with
      | zero => exact absurd hf (Nat.not_lt_zero _)
      | succ fuel =>
        refine ⟨i, sh, J, WF ?_⟩
        show B (n + 46) scN (rN ts i sh) _ numWh.1 false
        exact B.cmp (V.nm (d := fI i) (by rcases sh with _ | ⟨_ | _, _, _⟩ | _ | _ <;> kernel_rfl) (by decide)) (n_len ts hs hm (by rcases sh with _ | ⟨_ | _, _, _⟩ | _ | _ <;> kernel_rfl)) (ltB false (by simpa using he)) (by rfl)
theorem c_num (H : Hp) : callFn (ev T (n + 47)) f_numbered_elements [.f (iF ts), .f datF, .f tblF] H = some (.f (.lst (num ts)), H) := by
  obtain ⟨i', sh', J', h⟩ := num_loop n ts hs hm ts.length 0 [] .s0 [] 200 (by rw [List.drop_zero]; exact Nat.le_refl _) (Nat.zero_le _) (Nat.le_refl _) (by first | exact le_lim (by assumption) | omega)
  rw [List.drop_zero, List.nil_append] at h
  refine Fp (n := n + 46) rfl rfl (fs := [iF ts, datF, tblF]) rfl (ρ := [("text", .f (iF ts)), ("data", .f datF), ("table", .f tblF)]) rfl (d := .own 0) (H2 := .lst ((num ts).map .f) :: J') ⟨rN ts i' sh', ?_⟩ (fz_own 11 rfl)
  show Sts (n + 46) scN _ [] (fnT 56).2.1 _ _ _
  exact Sts.cons (ρ' := rN ts 0 .s0) (H' := [.lst []]) (by kernel_rfl) (Sts.cons (ρ' := rN ts i' sh') (H' := .lst ((num ts).map .f) :: J') (St1.wh h) (Sts.ret (by rcases sh' with _ | ⟨_ | _, _, _⟩ | _ | _ <;> kernel_rfl)))
end
end Mine

end
noncomputable section
set_option Elab.async false
set_option maxRecDepth 100000
set_option linter.unusedVariables false
/-! weights and levels -/
open PySem PySem.W
namespace Mine
section
variable {n : Nat} {sc : Sc} {ρ : Rho} {H : Hp} {d : D} {ds : List D} {e c x y : Expr} {r : List Expr} {p : Pos}
theorem xsp (h0 : isStar e = false) (h1 : X n sc ρ H e d) (h2 : exs (ev T n) sc ρ r H = some (ds, H)) : exs (ev T n) sc ρ (e :: r) H = some (d :: ds, H) := xsC h0 h1 h2
theorem X.ifT (h : B n sc ρ H c true) (k : X n sc ρ H x d) : X (n + 1) sc ρ H (.IfExp c x y p) d := X.s (EifT h k)
theorem X.ifF (h : B n sc ρ H c false) (k : X n sc ρ H y d) : X (n + 1) sc ρ H (.IfExp c x y p) d := X.s (EifF h k)
end
noncomputable abbrev Row := Int × Int
noncomputable def rowF (p : Row) : F := .tup [.int p.1, .int 32, .int p.2, .bool false]
noncomputable def wF (p : Row) : F := .tup [.int p.1, .int 32, .int p.2, .int 65535]
noncomputable def OkR (p : Row) : Prop := 0 < p.1 ∧ (p.2 = 2 ∨ p.2 = 8)
noncomputable def figP (l : List Int) : List Row := (100, 2) :: (2 + (l.length : Int), 2) :: l.map fun k => (2 + k, 2)
noncomputable def tokP : Int ⊕ List Int → List Row
  | .inl c => [(fst1 c, thd1 c)]
  | .inr ds => figP (strip ds)
/-- the rows of a text -/
noncomputable def rowsP (nu : Bool) (ts : List Int) : List Row := match nu with
  | true => (tok ts).flatMap tokP
  | false => ts.map fun c => (fst1 c, thd1 c)
theorem tokE_P (x : Int ⊕ List Int) : tokE x = (tokP x).map rowF := by
  cases x with
  | inl c => rfl
  | inr ds => show figF 100 (strip ds) = _; unfold figF tokP figP; rw [List.map_cons, List.map_cons, List.map_map]; rfl
theorem num_P (ts : List Int) : num ts = (rowsP true ts).map rowF := by
  unfold num rowsP
  dsimp only
  rw [List.map_flatMap]
  congr 1
  funext x
  exact tokE_P x
theorem els_P (ts : List Int) : ts.map e1 = (rowsP false ts).map rowF := by
  unfold rowsP; rw [List.map_map]; rfl
/-- what the options are -/
noncomputable def optF (s : Int) (cf : Str) (cl nu : Bool) : F := .ins 214 [("factors", .tup [.int 1, .int 1, .int 1]), ("how", .str "non-ignorable"), ("strength", .int s), ("is_backwards", .bool false), ("case_first", .str cf), ("has_case_level", .bool cl), ("is_numeric", .bool nu), ("reorder", .none)]
noncomputable abbrev scW : Sc := (fnT 39).2.2.names
noncomputable def wFor : Expr × Expr × List Stmt := forPart ((fnT 39).2.1.getD 4 default)
noncomputable def rWt (es : List Row) : Option Row → Rho
  | none => [("found", .own 0), ("top", fI 65535), ("elements", .f (.lst (es.map rowF))), ("how", .f (.str "non-ignorable")), ("spread", fI 1)]
  | some p => [("is_variable", fB false), ("third", fI p.2), ("second", fI 32), ("first", fI p.1), ("found", .own 0), ("top", fI 65535), ("elements", .f (.lst (es.map rowF))), ("how", .f (.str "non-ignorable")), ("spread", fI 1)]
theorem w_loop (n : Nat) (es : List Row) : ∀ (l : List Row) (acc : List F) (o : Option Row), (∀ p ∈ l, OkR p) → acc.length + l.length ≤ 1000 →
    ∃ o', forL (ev T (n + 14)) scW wFor.1 wFor.2.2 (l.map fun p => .f (rowF p)) (rWt es o) [.lst (acc.map .f)] = some (.next, rWt es o', [.lst ((acc ++ l.map wF).map .f)])
  | [], acc, o, _, hl => ⟨o, by simp; rfl⟩
  | p :: l, acc, o, hp, hl => by
    have hlim : lim = 100000 := rfl
    rw [List.length_cons] at hl
    obtain ⟨o', h⟩ := w_loop n es l (acc ++ [wF p]) (some p) (fun q m => hp q (.tail _ m)) (by rw [List.length_append, List.length_singleton]; omega)
    obtain ⟨k1, k2⟩ := hp p (.head _)
    have k3 : 0 < p.1 + 32 + p.2 := by rcases k2 with k2 | k2 <;> omega
    refine ⟨o', FC (ρ1 := rWt es (some p)) (by rcases o with _ | ⟨c', j⟩ <;> kernel_rfl) ?_ (h.trans ?_)⟩
    · show Sts (n + 13) scW (rWt es (some p)) _ wFor.2.2 _ _ _
      refine Sts.cons (ρ' := rWt es (some p)) (H' := [.lst ((acc ++ [wF p]).map .f)]) ?_ Sts.nil
      rw [List.map_append]
      refine St1.append (k := 0) (ds := acc.map .f) (d := .f (wF p)) (by kernel_rfl) (by rfl) ?_ (by first | exact lmap (by assumption) | (rw [List.length_map]; omega)) (by decide) (by rfl) (by rfl)
      exact X2.s (Etup (ds := [fI p.1, fI 32, fI p.2, fI 65535]) (by rfl) (xsp (by rfl) (by kernel_rfl) (xsp (by rfl) (by kernel_rfl) (xsp (by rfl) (by kernel_rfl) (xsp (by rfl) (X.ifT (B.cmp (a := fI (p.1 + 32 + p.2)) (b := fI 0) (by kernel_rfl) (by kernel_rfl) (by show some (decide (0 < p.1 + 32 + p.2)) = _; rw [decide_eq_true k3]) (by rfl)) (by kernel_rfl)) xsN)))))
    · rw [List.append_assoc]; rfl
theorem c_weighted (n : Nat) (es : List Row) (hp : ∀ p ∈ es, OkR p) (hl : es.length ≤ 900) (H : Hp) : callFn (ev T (n + 16)) f_weighted [.f (.lst (es.map rowF)), .f (.str "non-ignorable"), fI 1] H = some (.f (.lst (es.map wF)), H) := by
  have hlim : lim = 100000 := rfl
  obtain ⟨o, h⟩ := w_loop (n + 1) es es [] none hp (by rw [List.length_nil]; omega)
  rw [List.nil_append] at h
  refine Fp (n := n + 15) rfl rfl (fs := [.lst (es.map rowF), .str "non-ignorable", .int 1]) rfl (ρ := [("elements", .f (.lst (es.map rowF))), ("how", .f (.str "non-ignorable")), ("spread", fI 1)]) rfl (d := .own 0) (H2 := [.lst ((es.map wF).map .f)]) ⟨rWt es o, ?_⟩ (fz_own 11 rfl)
  show Sts (n + 15) scW _ [] (fnT 39).2.1 _ _ _
  refine Sts.cons (ρ' := [("top", fI 65535), ("elements", .f (.lst (es.map rowF))), ("how", .f (.str "non-ignorable")), ("spread", fI 1)]) (H' := []) (by kernel_rfl) ?_
  refine Sts.cons (ρ' := [("top", fI 65535), ("elements", .f (.lst (es.map rowF))), ("how", .f (.str "non-ignorable")), ("spread", fI 1)]) (H' := []) (by kernel_rfl) ?_
  refine Sts.cons (ρ' := [("top", fI 65535), ("elements", .f (.lst (es.map rowF))), ("how", .f (.str "non-ignorable")), ("spread", fI 1)]) (H' := []) (by kernel_rfl) ?_
  refine Sts.cons (ρ' := rWt es none) (H' := [.lst []]) (by kernel_rfl) ?_
  refine Sts.cons (ρ' := rWt es o) (H' := [.lst ((es.map wF).map .f)]) (Sfor (ds := es.map fun p => .f (rowF p)) (H1 := [.lst []]) (by kernel_rfl) ?_ h) (Sts.ret (by rcases o with _ | ⟨c', j⟩ <;> kernel_rfl))
  refine (it_nm (fs := es.map rowF) (by kernel_rfl) (by first | exact lmap (by assumption) | (rw [List.length_map]; omega)) (by decide)).trans ?_
  rw [List.map_map]; rfl
end Mine

end
noncomputable section
set_option Elab.async false
set_option maxRecDepth 100000
set_option linter.unusedVariables false
/-! levels, one by one -/
open PySem PySem.W
namespace Mine
noncomputable abbrev wl (es : List Row) : D := .f (.lst (es.map wF))
noncomputable def CfOk (cf : Str) : Prop := cf = "" ∨ cf = "upper" ∨ cf = "lower"
noncomputable def thT (cf : Str) (t : Int) : Int := if cf = "" then t else if cf = "upper" then (if t = 8 then 8 else t + 256) else (if t = 8 then t + 256 else t)
noncomputable def csT (cf : Str) (t : Int) : Int := if cf = "upper" then (if t = 8 then 2 else 3) else (if t = 8 then 3 else 2)
theorem neB {a : Int} {H : Hp} (h : 0 < a) : cmp .NotEq (fI a) (fI 0) H = some true := by
  show some (!(a == 0)) = some true
  congr 1
  have : (a == 0) = false := beq_eq_false_iff_ne.mpr (by first | exact le_lim (by assumption) | omega)
  rw [this]; rfl
section
variable (n : Nat) (es : List Row) (hp : ∀ p ∈ es, OkR p) (hl : es.length ≤ 900) (s : Int) (cf : Str) (cl nu : Bool) (H : Hp)
noncomputable def rO : Rho := [("weights", wl es), ("options", .f (optF s cf cl nu))]
include hl
theorem it_w {k : Nat} {sc : Sc} {ρ : Rho} {H : Hp} {p : Pos} (h : var T sc ρ "weights" = some (wl es)) : iters (ev T (k + 1)) sc (.Name "weights" p) ρ H = some (es.map fun p => .f (wF p), H) := by
  refine (it_nm (fs := es.map wF) h (by rw [List.length_map]; show es.length ≤ 100000; omega) (by decide)).trans ?_
  rw [List.map_map]; rfl
include hp
theorem c_first : callFn (ev T (n + 12)) f_collkey_first [wl es, .f (optF s cf cl nu)] H = some (.f (iF (es.map (·.1))), H) := by
  have hlim : lim = 100000 := rfl
  refine Fp (n := n + 11) rfl rfl (fs := [.lst (es.map wF), optF s cf cl nu]) rfl (ρ := rO es s cf cl nu) rfl (d := .f (iF (es.map (·.1)))) (H2 := []) ⟨("found", .f (iF (es.map (·.1)))) :: rO es s cf cl nu, ?_⟩ rfl
  show Sts (n + 11) (fnT 41).2.2.names (rO es s cf cl nu) [] (fnT 41).2.1 _ _ _
  refine Sts.cons (ρ' := ("found", .f (iF (es.map (·.1)))) :: rO es s cf cl nu) (H' := []) (St1.asgC (d := .f (iF (es.map (·.1)))) (Ecomp (ds := es.map fun p => .f (wF p)) (fs := (es.map (·.1)).map .int) (H1 := []) (by kernel_rfl) (it_w es hl (by kernel_rfl)) (by first | exact lmap (by assumption) | (rw [List.length_map]; omega)) ?_) (by kernel_rfl) (by rfl)) (Sts.ret (by kernel_rfl))
  rw [List.map_map]
  exact comp_all (fun p : Row => .f (wF p)) (fun p => .int p.1) OkR (fun p hp => ⟨[("row", .f (wF p))], fI p.1, by kernel_rfl, B.cmp (a := fI p.1) (b := fI 0) (by kernel_rfl) (by kernel_rfl) (neB hp.1) (by rfl), by kernel_rfl, rfl⟩) es hp
theorem c_second : callFn (ev T (n + 12)) f_collkey_second [wl es, .f (optF s cf cl nu)] H = some (.f (iF (es.map fun _ => 32)), H) := by
  have hlim : lim = 100000 := rfl
  refine Fp (n := n + 11) rfl rfl (fs := [.lst (es.map wF), optF s cf cl nu]) rfl (ρ := rO es s cf cl nu) rfl (d := .f (iF (es.map fun _ => 32))) (H2 := []) ⟨("found", .f (iF (es.map fun _ => 32))) :: rO es s cf cl nu, ?_⟩ rfl
  show Sts (n + 11) (fnT 42).2.2.names (rO es s cf cl nu) [] (fnT 42).2.1 _ _ _
  refine Sts.cons (ρ' := ("found", .f (iF (es.map fun _ => 32))) :: rO es s cf cl nu) (H' := []) (St1.asgC (d := .f (iF (es.map fun _ => 32))) (Ecomp (ds := es.map fun p => .f (wF p)) (fs := (es.map fun _ => (32 : Int)).map .int) (H1 := []) (by kernel_rfl) (it_w es hl (by kernel_rfl)) (by first | exact lmap (by assumption) | (rw [List.length_map]; omega)) ?_) (by kernel_rfl) (by rfl)) (Sts.ret (by kernel_rfl))
  rw [List.map_map]
  exact comp_all (fun p : Row => .f (wF p)) (fun p => .int 32) OkR (fun p hp => ⟨[("row", .f (wF p))], fI 32, by kernel_rfl, by kernel_rfl, by kernel_rfl, rfl⟩) es hp
theorem c_case (hcf : CfOk cf) : callFn (ev T (n + 14)) f_collkey_case [wl es, .f (optF s cf cl nu)] H = some (.f (iF (es.map fun p => csT cf p.2)), H) := by
  have hlim : lim = 100000 := rfl
  have go : ∀ hi : Int, (∀ t, t = 2 ∨ t = 8 → csT cf t = if t = 8 then hi else 5 - hi) → St1 (n + 13) (fnT 43).2.2.names (rO es s cf cl nu) [] ((fnT 43).2.1.getD 0 default) .next (("spread", fI 1) :: ("high", fI hi) :: rO es s cf cl nu) [] → callFn (ev T (n + 14)) f_collkey_case [wl es, .f (optF s cf cl nu)] H = some (.f (iF (es.map fun p => csT cf p.2)), H) := by
    intro hi hh h0
    refine Fp (n := n + 13) rfl rfl (fs := [.lst (es.map wF), optF s cf cl nu]) rfl (ρ := rO es s cf cl nu) rfl (d := .f (iF (es.map fun p => csT cf p.2))) (H2 := []) ⟨("spread", fI 1) :: ("high", fI hi) :: rO es s cf cl nu, ?_⟩ rfl
    show Sts (n + 13) (fnT 43).2.2.names (rO es s cf cl nu) [] (fnT 43).2.1 _ _ _
    refine Sts.cons h0 (Sts.ret (Sreturn (xV (by rfl) (X.comp (Ecomp (ds := es.map fun p => .f (wF p)) (fs := (es.map fun p => csT cf p.2).map .int) (H1 := []) (by kernel_rfl) (it_w es hl (by kernel_rfl)) (by first | exact lmap (by assumption) | (rw [List.length_map]; omega)) ?_)))))
    rw [List.map_map]
    refine comp_all (fun p : Row => .f (wF p)) (fun p => .int (csT cf p.2)) OkR (fun p hp => ⟨[("row", .f (wF p)), ("spread", fI 1), ("high", fI hi)], fI (csT cf p.2), by kernel_rfl, B.cmp (a := fI p.1) (b := fI 0) (by kernel_rfl) (by kernel_rfl) (neB hp.1) (by rfl), ?_, rfl⟩) es hp
    obtain ⟨a, t⟩ := p
    obtain ⟨h1, rfl | rfl⟩ := hp
    · rw [hh 2 (.inl rfl)]; kernel_rfl
    · rw [hh 8 (.inr rfl)]; kernel_rfl
  rcases hcf with rfl | rfl | rfl
  · exact go 3 (fun t ht => by rcases ht with rfl | rfl <;> decide) (by kernel_rfl)
  · exact go 2 (fun t ht => by rcases ht with rfl | rfl <;> decide) (by kernel_rfl)
  · exact go 3 (fun t ht => by rcases ht with rfl | rfl <;> decide) (by kernel_rfl)
end
end Mine

end
noncomputable section
set_option Elab.async false
set_option maxRecDepth 100000
set_option linter.unusedVariables false
/-! levels and keys -/
open PySem PySem.W
namespace Mine
theorem Elist {T : Tabs} {R : Rec} {sc : Sc} {ρ : Rho} {H H1 : Hp} {es : List Expr} {ds : List D} {p : Pos} (h0 : decide (es.length ≤ lim) = true) (h : exs R sc ρ es H = some (ds, H1)) : stepEx T R sc (.List es p) ρ H = some (.own H1.length, H1 ++ [.lst ds]) := by
  show (if es.length ≤ lim then (exs R sc ρ es H).map fun x => (D.own x.2.length, x.2 ++ [O.lst x.1]) else none) = _
  rw [if_pos (of_decide_eq_true h0)]
  exact md h
noncomputable def lvls (s : Int) (cf : Str) (cl : Bool) (es : List Row) : List (List Int) :=
  [es.map (·.1)] ++ (if 2 ≤ s then [es.map fun _ => 32] else []) ++ (if cl = true then [es.map fun p => csT cf p.2] else []) ++ (if 3 ≤ s then [es.map fun p => thT cf p.2] else [])
noncomputable def SOk (s : Int) : Prop := s = 1 ∨ s = 2 ∨ s = 3
section
variable (n : Nat) (es : List Row) (hp : ∀ p ∈ es, OkR p) (hl : es.length ≤ 900) (s : Int) (cf : Str) (cl nu : Bool) (H : Hp)
include hl hp
theorem c_third (hcf : CfOk cf) : callFn (ev T (n + 14)) f_collkey_third [wl es, .f (optF s cf cl nu)] H = some (.f (iF (es.map fun p => thT cf p.2)), H) := by
  have hlim : lim = 100000 := rfl
  have st0 : St1 (n + 13) (fnT 44).2.2.names (rO es s cf cl nu) [] ((fnT 44).2.1.getD 0 default) .next (("found", .f (iF (es.map (·.2)))) :: rO es s cf cl nu) [] := by
    refine St1.asgC (d := .f (iF (es.map (·.2)))) (Ecomp (ds := es.map fun p => .f (wF p)) (fs := (es.map (·.2)).map .int) (H1 := []) (by kernel_rfl) (it_w es hl (by kernel_rfl)) (by first | exact lmap (by assumption) | (rw [List.length_map]; omega)) ?_) (by kernel_rfl) (by rfl)
    rw [List.map_map]
    exact comp_all (fun p : Row => .f (wF p)) (fun p => .int p.2) OkR (fun p hp => ⟨[("row", .f (wF p))], fI p.2, by kernel_rfl, B.cmp (a := fI p.2) (b := fI 0) (by kernel_rfl) (by kernel_rfl) (neB (by rcases hp.2 with h | h <;> omega)) (by rfl), by kernel_rfl, rfl⟩) es hp
  have go : ∀ ah : Bool, (∀ t, t = 2 ∨ t = 8 → thT cf t = t + (if (t == 8) == ah then 0 else 256)) → St1 (n + 13) (fnT 44).2.2.names (("found", .f (iF (es.map (·.2)))) :: rO es s cf cl nu) [] ((fnT 44).2.1.getD 1 default) .next (("found", .f (iF (es.map (·.2)))) :: rO es s cf cl nu) [] → St1 (n + 13) (fnT 44).2.2.names (("found", .f (iF (es.map (·.2)))) :: rO es s cf cl nu) [] ((fnT 44).2.1.getD 2 default) .next (("spread", fI 1) :: ("is_ahead", fB ah) :: ("found", .f (iF (es.map (·.2)))) :: rO es s cf cl nu) [] →
      callFn (ev T (n + 14)) f_collkey_third [wl es, .f (optF s cf cl nu)] H = some (.f (iF (es.map fun p => thT cf p.2)), H) := by
    intro ah hh h1 h2
    refine Fp (n := n + 13) rfl rfl (fs := [.lst (es.map wF), optF s cf cl nu]) rfl (ρ := rO es s cf cl nu) rfl (d := .f (iF (es.map fun p => thT cf p.2))) (H2 := []) ⟨("spread", fI 1) :: ("is_ahead", fB ah) :: ("found", .f (iF (es.map (·.2)))) :: rO es s cf cl nu, ?_⟩ rfl
    show Sts (n + 13) (fnT 44).2.2.names (rO es s cf cl nu) [] (fnT 44).2.1 _ _ _
    refine Sts.cons st0 (Sts.cons h1 (Sts.cons h2 (Sts.ret (Sreturn (xV (by rfl) (X.comp (Ecomp (ds := es.map fun p => fI p.2) (fs := (es.map fun p => thT cf p.2).map .int) (H1 := []) (by kernel_rfl) ?_ (by first | exact lmap (by assumption) | (rw [List.length_map]; omega)) ?_)))))))
    · refine (it_nm (fs := (es.map (·.2)).map .int) (by kernel_rfl) (by rw [List.length_map, List.length_map]; omega) (by decide)).trans ?_
      rw [List.map_map, List.map_map]; rfl
    · rw [List.map_map]
      refine comp_map (fun p : Row => fI p.2) (fun p => .int (thT cf p.2)) OkR (fun p hp => ⟨[("third", fI p.2), ("spread", fI 1), ("is_ahead", fB ah)], fI (thT cf p.2), by kernel_rfl, ?_, rfl⟩) es hp
      obtain ⟨a, t⟩ := p
      obtain ⟨h1, rfl | rfl⟩ := hp
      · rw [hh 2 (.inl rfl)]; cases ah <;> kernel_rfl
      · rw [hh 8 (.inr rfl)]; cases ah <;> kernel_rfl
  rcases hcf with rfl | rfl | rfl
  · refine Fp (n := n + 13) rfl rfl (fs := [.lst (es.map wF), optF s "" cl nu]) rfl (ρ := rO es s "" cl nu) rfl (d := .f (iF (es.map fun p => thT "" p.2))) (H2 := []) ⟨("found", .f (iF (es.map (·.2)))) :: rO es s "" cl nu, ?_⟩ rfl
    rw [show (es.map fun p => thT "" p.2) = es.map (·.2) from List.map_congr_left fun p _ => by unfold thT; rw [if_pos rfl]]
    show Sts (n + 13) (fnT 44).2.2.names (rO es s "" cl nu) [] (fnT 44).2.1 _ _ _
    exact Sts.cons st0 (Sts.ret (by kernel_rfl))
  · exact go true (fun t ht => by rcases ht with rfl | rfl <;> decide) (by kernel_rfl) (by kernel_rfl)
  · exact go false (fun t ht => by rcases ht with rfl | rfl <;> decide) (by kernel_rfl) (by kernel_rfl)
theorem c_levels (hcf : CfOk cf) (hs : SOk s) : callFn (ev T (n + 20)) f_collkey_levels [wl es, .f (optF s cf cl nu)] H = some (.f (.lst ((lvls s cf cl es).map iF)), H) := by
  have e1 : ∀ {k H}, callFn (ev T (k + 12)) f_collkey_first [wl es, .f (optF s cf cl nu)] H = some (.f (iF (es.map (·.1))), H) := fun {k H} => c_first k es hp hl s cf cl nu H
  have e2 : ∀ {k H}, callFn (ev T (k + 12)) f_collkey_second [wl es, .f (optF s cf cl nu)] H = some (.f (iF (es.map fun _ => 32)), H) := fun {k H} => c_second k es hp hl s cf cl nu H
  have e3 : ∀ {k H}, callFn (ev T (k + 14)) f_collkey_case [wl es, .f (optF s cf cl nu)] H = some (.f (iF (es.map fun p => csT cf p.2)), H) := fun {k H} => c_case k es hp hl s cf cl nu H hcf
  have e4 : ∀ {k H}, callFn (ev T (k + 14)) f_collkey_third [wl es, .f (optF s cf cl nu)] H = some (.f (iF (es.map fun p => thT cf p.2)), H) := fun {k H} => c_third k es hp hl s cf cl nu H hcf
  refine Fp (n := n + 19) rfl rfl (fs := [.lst (es.map wF), optF s cf cl nu]) rfl (ρ := rO es s cf cl nu) rfl (d := .own 0) (H2 := [.lst (((lvls s cf cl es).map iF).map .f)]) ⟨("found", .own 0) :: rO es s cf cl nu, ?_⟩ (fz_own 11 rfl)
  show Sts (n + 19) (fnT 46).2.2.names (rO es s cf cl nu) [] (fnT 46).2.1 _ _ _
  have call : ∀ (acc : List D) (f : Fn) (nm : Str) (ad : Addr) (d : D) (np p1 p2 p3 : Pos), var T (fnT 46).2.2.names (("found", .own 0) :: rO es s cf cl nu) nm = some (.f (.glob (.ref ad))) → nameOk nm = true → T.fns ad = some f → callFn (ev T (n + 16)) f [wl es, .f (optF s cf cl nu)] [.lst acc] = some (d, [.lst acc]) →
      X (n + 17) (fnT 46).2.2.names (("found", .own 0) :: rO es s cf cl nu) [.lst acc] (.Call (.Name nm np) [.Name "weights" p1, .Name "options" p2] [] p3) d := fun acc f nm ad d np p1 p2 p3 h1 h2 h3 h4 =>
    X2.s (Ecall (H1 := [.lst acc]) (X.nm h1 h2) h3 (xp (by rfl) (V.nm (by kernel_rfl) (by decide)) (xp (by rfl) (V.nm (by kernel_rfl) (by decide)) xvN)) h4)
  have app : ∀ (acc : List D) (e : Expr) (d : D) (p1 p2 p3 p4 : Pos), acc.length ≤ 10 → X (n + 17) (fnT 46).2.2.names (("found", .own 0) :: rO es s cf cl nu) [.lst acc] e d → isStar e = false → (!(p2.endLine == p3.line) || !decide (1 < 30)) = false →
      Sts (n + 18) (fnT 46).2.2.names (("found", .own 0) :: rO es s cf cl nu) [.lst acc] [.Expr (.Call (.Attribute (.Name "found" p1) "append" p2) [e] [] p3) p4] .next (("found", .own 0) :: rO es s cf cl nu) [.lst (acc ++ [d])] := fun acc e d p1 p2 p3 p4 hl he hs h0 =>
    Sts.cons (H' := [.lst (acc ++ [d])]) (St1.append (k := 0) (ds := acc) (by kernel_rfl) (by rfl) he (by show acc.length ≤ 100000; omega) (by decide) hs h0) Sts.nil
  have s1 : ∀ acc : List D, acc.length ≤ 10 → St1 (n + 19) (fnT 46).2.2.names (("found", .own 0) :: rO es s cf cl nu) [.lst acc] ((fnT 46).2.1.getD 1 default) .next (("found", .own 0) :: rO es s cf cl nu) [.lst (acc ++ if 2 ≤ s then [.f (iF (es.map fun _ => 32))] else [])] := fun acc hacc => by
    by_cases h : 2 ≤ s
    · rw [if_pos h]
      exact St1.ifT (by rcases hs with rfl | rfl | rfl; exact absurd h (by decide); kernel_rfl; kernel_rfl) (app acc _ _ _ _ _ _ hacc (call acc f_collkey_second "collkey_second" 258 _ _ _ _ _ (by kernel_rfl) (by decide) (by kernel_rfl) e2) (by rfl) (by rfl))
    · rw [if_neg h, List.append_nil]
      exact St1.ifF (by rcases hs with rfl | rfl | rfl; kernel_rfl; exact absurd (by decide) h; exact absurd (by decide) h) (by rfl)
  have s2 : ∀ acc : List D, acc.length ≤ 10 → St1 (n + 19) (fnT 46).2.2.names (("found", .own 0) :: rO es s cf cl nu) [.lst acc] ((fnT 46).2.1.getD 2 default) .next (("found", .own 0) :: rO es s cf cl nu) [.lst (acc ++ if cl = true then [.f (iF (es.map fun p => csT cf p.2))] else [])] := fun acc hacc => by
    cases cl with
    | true =>
      rw [if_pos rfl]
      exact St1.ifT (by kernel_rfl) (app acc _ _ _ _ _ _ hacc (call acc f_collkey_case "collkey_case" 263 _ _ _ _ _ (by kernel_rfl) (by decide) (by kernel_rfl) (e3 (k := n + 2))) (by rfl) (by rfl))
    | false =>
      rw [if_neg (by decide), List.append_nil]
      exact St1.ifF (by kernel_rfl) (by rfl)
  have s3 : ∀ acc : List D, acc.length ≤ 10 → St1 (n + 19) (fnT 46).2.2.names (("found", .own 0) :: rO es s cf cl nu) [.lst acc] ((fnT 46).2.1.getD 3 default) .next (("found", .own 0) :: rO es s cf cl nu) [.lst (acc ++ if 3 ≤ s then [.f (iF (es.map fun p => thT cf p.2))] else [])] := fun acc hacc => by
    by_cases h : 3 ≤ s
    · rw [if_pos h]
      exact St1.ifT (by rcases hs with rfl | rfl | rfl; exact absurd h (by decide); exact absurd h (by decide); kernel_rfl) (app acc _ _ _ _ _ _ hacc (call acc f_collkey_third "collkey_third" 268 _ _ _ _ _ (by kernel_rfl) (by decide) (by kernel_rfl) (e4 (k := n + 2))) (by rfl) (by rfl))
    · rw [if_neg h, List.append_nil]
      exact St1.ifF (by rcases hs with rfl | rfl | rfl; kernel_rfl; kernel_rfl; exact absurd (by decide) h) (by rfl)
  have s4 : ∀ acc : List D, St1 (n + 19) (fnT 46).2.2.names (("found", .own 0) :: rO es s cf cl nu) [.lst acc] ((fnT 46).2.1.getD 4 default) .next (("found", .own 0) :: rO es s cf cl nu) [.lst acc] := fun acc => by
    rcases hs with rfl | rfl | rfl <;> kernel_rfl
  have s0 : St1 (n + 19) (fnT 46).2.2.names (rO es s cf cl nu) [] ((fnT 46).2.1.getD 0 default) .next (("found", .own 0) :: rO es s cf cl nu) [.lst [.f (iF (es.map (·.1)))]] := by
    refine St1.asg (d := .own 0) ?_ (by kernel_rfl) (by rfl) (by rfl)
    exact X2.s (Elist (H1 := []) (ds := [.f (iF (es.map (·.1)))]) (by rfl) (xsC (H1 := []) (by rfl) (X2.s (Ecall (f := f_collkey_first) (ad := 253) (ds := [wl es, .f (optF s cf cl nu)]) (H1 := []) (by kernel_rfl) (by kernel_rfl) (by kernel_rfl) (e1 (k := n + 5)))) xsN))
  have eq : [O.lst (((lvls s cf cl es).map iF).map D.f)] = [O.lst ((([D.f (iF (es.map (·.1)))] ++ (if 2 ≤ s then [D.f (iF (es.map fun _ => 32))] else [])) ++ (if cl = true then [D.f (iF (es.map fun p => csT cf p.2))] else [])) ++ (if 3 ≤ s then [D.f (iF (es.map fun p => thT cf p.2))] else []))] := by
    unfold lvls
    by_cases h2 : 2 ≤ s <;> by_cases h3 : 3 ≤ s <;> cases cl <;> simp [h2, h3]
  rw [eq]
  have l1 : ∀ (c : Prop) [Decidable c] (d : D), (if c then [d] else []).length ≤ 1 := fun c _ d => by split <;> simp
  refine Sts.cons s0 (Sts.cons (s1 _ (Nat.le_of_ble_eq_true rfl)) (Sts.cons (s2 _ ?_) (Sts.cons (s3 _ ?_) (Sts.cons (s4 _) (Sts.ret (by kernel_rfl))))))
  · rw [List.length_append]; have := l1 (2 ≤ s) (.f (iF (es.map fun _ => 32))); rw [List.length_singleton]; omega
  · rw [List.length_append, List.length_append]; have := l1 (2 ≤ s) (.f (iF (es.map fun _ => 32))); have := l1 (cl = true) (.f (iF (es.map fun p => csT cf p.2))); rw [List.length_singleton]; omega
end
end Mine

end
noncomputable section
set_option Elab.async false
set_option maxRecDepth 100000
set_option linter.unusedVariables false
/-! keys -/
open PySem PySem.W
namespace Mine
/-- levels with a nought between -/
noncomputable def keyOf : List (List Int) → List Int
  | [] => []
  | l :: r => l ++ r.flatMap (0 :: ·)
noncomputable def keyFrom (b : Bool) (ls : List (List Int)) : List Int := match b with
  | true => keyOf ls
  | false => ls.flatMap (0 :: ·)
noncomputable def sumL (ls : List (List Int)) : Nat := (ls.map List.length).sum + ls.length
noncomputable abbrev scK : Sc := (fnT 48).2.2.names
noncomputable def kFor : Expr × Expr × List Stmt := forPart ((fnT 48).2.1.getD 1 default)
noncomputable def bK (es : List Row) (o : F) : Rho := [("found", .own 0), ("weights", wl es), ("options", .f o), ("plain", .f .none)]
noncomputable def rK (es : List Row) (o : F) : Option (List Int) → Rho
  | none => ("is_first", fB true) :: bK es o
  | some l => ("is_first", fB false) :: ("level", .f (iF l)) :: bK es o
noncomputable def rK1 (es : List Row) (o : F) (l : List Int) : Option (List Int) → Rho
  | none => ("level", .f (iF l)) :: ("is_first", fB true) :: bK es o
  | some _ => ("level", .f (iF l)) :: ("is_first", fB false) :: bK es o
theorem k_loop (n : Nat) (es : List Row) (op : F) : ∀ (ls : List (List Int)) (acc : List Int) (o : Option (List Int)), acc.length + sumL ls ≤ 20000 →
    ∃ o', forL (ev T (n + 14)) scK kFor.1 kFor.2.2 (ls.map fun l => .f (iF l)) (rK es op o) [.lst (acc.map fI)] = some (.next, rK es op o', [.lst ((acc ++ keyFrom o.isNone ls).map fI)])
  | [], acc, o, hl => ⟨o, by cases o <;> (simp [keyFrom, keyOf]; rfl)⟩
  | l :: ls, acc, o, hl => by
    have hlim : lim = 100000 := rfl
    have hs : sumL (l :: ls) = l.length + sumL ls + 1 := by unfold sumL; rw [List.map_cons, List.sum_cons, List.length_cons]; omega
    rw [hs] at hl
    have ext : ∀ (acc : List Int), acc.length + l.length ≤ 20000 → Sts (n + 13) scK (rK1 es op l o) [.lst (acc.map fI)] (kFor.2.2.drop 1) .next (rK es op (some l)) [.lst ((acc ++ l).map fI)] := fun acc ha => by
      refine Sts.cons (ρ' := rK1 es op l o) (H' := [.lst ((acc ++ l).map fI)]) ?_ (Sts.cons (ρ' := rK es op (some l)) (H' := [.lst ((acc ++ l).map fI)]) (by cases o <;> kernel_rfl) Sts.nil)
      rw [List.map_append, show l.map fI = (l.map F.int).map D.f by rw [List.map_map]; rfl]
      exact St1.extend (k := 0) (ds := acc.map fI) (fs := l.map F.int) (by cases o <;> kernel_rfl) (by rfl) (V.nm (d := .f (iF l)) (by cases o <;> kernel_rfl) (by decide)) (by rfl) (by first | exact lmap (by assumption) | (rw [List.length_map]; omega)) (by first | exact lmap (by assumption) | (rw [List.length_map]; omega)) (by decide) (by rfl) (by rfl)
    cases o with
    | none =>
      obtain ⟨o', h⟩ := k_loop n es op ls (acc ++ l) (some l) (by rw [List.length_append]; omega)
      refine ⟨o', FC (ρ1 := rK1 es op l none) (ρ2 := rK es op (some l)) (H2 := [.lst ((acc ++ l).map fI)]) (by kernel_rfl) ?_ (h.trans ?_)⟩
      · show Sts (n + 13) scK (rK1 es op l none) _ kFor.2.2 _ _ _
        exact Sts.cons (ρ' := rK1 es op l none) (H' := [.lst (acc.map fI)]) (by kernel_rfl) (ext acc (by first | exact le_lim (by assumption) | omega))
      · show some (Fl.next, rK es op o', [O.lst ((acc ++ l ++ ls.flatMap (0 :: ·)).map fI)]) = some (Fl.next, rK es op o', [O.lst ((acc ++ (l ++ ls.flatMap (0 :: ·))).map fI)])
        rw [List.append_assoc]
    | some l0 =>
      obtain ⟨o', h⟩ := k_loop n es op ls (acc ++ [0] ++ l) (some l) (by rw [List.length_append, List.length_append, List.length_singleton]; omega)
      refine ⟨o', FC (ρ1 := rK1 es op l (some l0)) (ρ2 := rK es op (some l)) (H2 := [.lst ((acc ++ [0] ++ l).map fI)]) (by kernel_rfl) ?_ (h.trans ?_)⟩
      · show Sts (n + 13) scK (rK1 es op l (some l0)) _ kFor.2.2 _ _ _
        refine Sts.cons (ρ' := rK1 es op l (some l0)) (H' := [.lst ((acc ++ [0]).map fI)]) (St1.ifT (by kernel_rfl) ?_) (ext (acc ++ [0]) (by rw [List.length_append, List.length_singleton]; omega))
        show Sts (n + 12) scK (rK1 es op l (some l0)) _ _ _ _ _
        rw [List.map_append]
        exact Sts.cons (H' := [.lst (acc.map fI ++ [fI 0])]) (St1.append (k := 0) (ds := acc.map fI) (d := fI 0) (by kernel_rfl) (by rfl) X.int (by first | exact lmap (by assumption) | (rw [List.length_map]; omega)) (by decide) (by rfl) (by rfl)) Sts.nil
      · show some (Fl.next, rK es op o', [O.lst ((acc ++ [0] ++ l ++ ls.flatMap (0 :: ·)).map fI)]) = some (Fl.next, rK es op o', [O.lst ((acc ++ (0 :: l ++ ls.flatMap (0 :: ·))).map fI)])
        simp
section
variable (n : Nat) (es : List Row) (hp : ∀ p ∈ es, OkR p) (hl : es.length ≤ 900) (s : Int) (cf : Str) (cl nu : Bool) (H : Hp) (hcf : CfOk cf) (hs : SOk s)
theorem lvls_sum (hl : es.length ≤ 900) : sumL (lvls s cf cl es) ≤ 4000 ∧ (lvls s cf cl es).length ≤ 4 := by
  unfold sumL lvls
  by_cases h2 : 2 ≤ s <;> by_cases h3 : 3 ≤ s <;> cases cl <;> simp [h2, h3] <;> omega
include hl hp hcf hs
theorem c_wkey : callFn (ev T (n + 24)) f_weights_key [wl es, .f (optF s cf cl nu), .f .none] H = some (.f (iF (keyOf (lvls s cf cl es))), H) := by
  have hlim : lim = 100000 := rfl
  obtain ⟨hsum, hlen⟩ := lvls_sum es s cf cl hl
  obtain ⟨o, h⟩ := k_loop (n + 9) es (optF s cf cl nu) (lvls s cf cl es) [] none (by rw [List.length_nil]; omega)
  rw [List.nil_append] at h
  refine Fp (n := n + 23) rfl rfl (fs := [.lst (es.map wF), optF s cf cl nu, .none]) rfl (ρ := [("weights", wl es), ("options", .f (optF s cf cl nu)), ("plain", .f .none)]) rfl (d := .own 0) (H2 := [.lst ((keyOf (lvls s cf cl es)).map fI)]) ⟨rK es (optF s cf cl nu) o, ?_⟩ (by rw [show (keyOf (lvls s cf cl es)).map fI = ((keyOf (lvls s cf cl es)).map F.int).map D.f by rw [List.map_map]; rfl]; exact fz_own 11 rfl)
  show Sts (n + 23) scK _ [] (fnT 48).2.1 _ _ _
  refine Sts.cons (ρ' := rK es (optF s cf cl nu) none) (H' := [.lst []]) (by kernel_rfl) ?_
  refine Sts.cons (ρ' := rK es (optF s cf cl nu) o) (H' := [.lst ((keyOf (lvls s cf cl es)).map fI)]) (Sfor (ds := (lvls s cf cl es).map fun l => .f (iF l)) (H1 := [.lst []]) (by kernel_rfl) ?_ h) (Sts.cons (ρ' := rK es (optF s cf cl nu) o) (H' := [.lst ((keyOf (lvls s cf cl es)).map fI)]) ?_ (Sts.ret (by cases o <;> kernel_rfl)))
  · show (exV (ev T (n + 23)) scK _ (rK es (optF s cf cl nu) none) _).bind (fun x => itemsOf x.1 x.2) = _
    refine bd (V.of (X2.s (Ecall (f := f_collkey_levels) (ad := 280) (ds := [wl es, .f (optF s cf cl nu)]) (H1 := [.lst []]) (by kernel_rfl) (by kernel_rfl) (by kernel_rfl) (c_levels (n + 2) es hp hl s cf cl nu _ hcf hs))) (by rfl)) ?_
    show (lstOf (.f (.lst ((lvls s cf cl es).map iF))) [.lst []]).map (fun x => (dF x.1, x.2)) = _
    refine (md (a := ((lvls s cf cl es).map iF, [.lst []])) ?_).trans ?_
    · exact lstOf_f (by first | exact lmap (by assumption) | (rw [List.length_map]; omega))
    · unfold dF; rw [List.map_map]; rfl
  · rcases hs with rfl | rfl | rfl <;> cases o <;> kernel_rfl
end
/-- the texts -/
noncomputable def TxOk (ts : List Int) : Prop := (∀ c ∈ ts, c ∈ SG) ∧ ts.length ≤ 100
theorem c_elfor (n : Nat) (ts : List Int) (h : TxOk ts) (s : Int) (cf : Str) (cl nu : Bool) (H : Hp) : callFn (ev T (n + 50)) f_elements_for [.f (iF ts), .f datF, .f tblF, .f (optF s cf cl nu)] H = some (.f (.lst ((rowsP nu ts).map rowF)), H) := by
  refine Fp (n := n + 49) rfl rfl (fs := [iF ts, datF, tblF, optF s cf cl nu]) rfl (ρ := [("text", .f (iF ts)), ("data", .f datF), ("table", .f tblF), ("options", .f (optF s cf cl nu))]) rfl (d := .f (.lst ((rowsP nu ts).map rowF))) (H2 := []) ⟨[("text", .f (iF ts)), ("data", .f datF), ("table", .f tblF), ("options", .f (optF s cf cl nu))], ?_⟩ rfl
  show Sts (n + 49) (fnT 49).2.2.names _ [] (fnT 49).2.1 _ _ _
  cases nu with
  | true =>
    refine Sts.ret (Sreturn (xV (by rfl) (X.ifT (by kernel_rfl) ?_)))
    rw [← num_P]
    exact X2.s (Ecall (f := f_numbered_elements) (ad := 345) (ds := [.f (iF ts), .f datF, .f tblF]) (H1 := []) (by kernel_rfl) (by kernel_rfl) (by kernel_rfl) (c_num n ts h.1 h.2 _))
  | false =>
    refine Sts.ret (Sreturn (xV (by rfl) (X.ifF (by kernel_rfl) ?_)))
    rw [← els_P]
    exact X2.s (Emeth (d := .f tblF) (ds := [.f (iF ts), .f datF]) (H1 := []) (H2 := []) (by rfl) (by rfl) (by kernel_rfl) (by rfl) (by kernel_rfl) (cl := c_Elements) (by kernel_rfl) (f := f_Elements_elements_of) (by kernel_rfl) (by kernel_rfl) (c_els (n + 11) ts h.1 h.2 _))
end Mine

end
noncomputable section
set_option Elab.async false
set_option maxRecDepth 100000
set_option linter.unusedVariables false
/-! sort keys -/
open PySem PySem.W
namespace Mine
noncomputable def nng (l : List Int) : Prop := ∀ x ∈ l, 0 ≤ x
theorem strip_mem {x : Int} : ∀ {l : List Int}, x ∈ strip l → x ∈ l
  | [], h => h
  | y :: r, h => by
    unfold strip at h
    split at h
    · exact .tail _ (strip_mem h)
    · exact h
theorem figP_ok {l : List Int} (h : nng l) : ∀ p ∈ figP l, OkR p := by
  intro p hp
  unfold figP at hp
  rcases List.mem_cons.mp hp with rfl | hp
  · exact ⟨by decide, .inl rfl⟩
  · rcases List.mem_cons.mp hp with rfl | hp
    · exact ⟨by show 0 < 2 + (l.length : Int); omega, .inl rfl⟩
    · obtain ⟨x, hx, rfl⟩ := List.mem_map.mp hp
      exact ⟨by have := h x hx; show 0 < 2 + x; omega, .inl rfl⟩
theorem isD_ge {c : Int} (h : isD c = true) : 48 ≤ c := by
  unfold isD at h
  simp only [Bool.or_eq_true, beq_iff_eq] at h
  omega
theorem tok_ok : ∀ (ts : List Int), (∀ c ∈ ts, c ∈ SG) → ∀ x ∈ tok ts, match x with | .inl c => c ∈ SG | .inr ds => nng ds
  | [], _, x, h => by cases h
  | c :: r, hs, x, h => by
    have ih := tok_ok r fun y m => hs y (.tail _ m)
    unfold tok at h
    split at h
    · rename_i hD
      have h48 := isD_ge hD
      split at h
      · rename_i ds t e
        rw [e] at ih
        rcases List.mem_cons.mp h with rfl | h
        · have := ih (.inr ds) (.head _)
          intro y hy
          rcases List.mem_cons.mp hy with rfl | hy
          · omega
          · exact this y hy
        · exact ih x (.tail _ h)
      · rcases List.mem_cons.mp h with rfl | h
        · intro y hy
          have : y = c - 48 := by simpa using hy
          omega
        · exact ih x h
    · rcases List.mem_cons.mp h with rfl | h
      · exact hs c (.head _)
      · exact ih x h
theorem e1_ok : ∀ c ∈ SG, OkR (fst1 c, thd1 c) := sg8 (by unfold OkR; decide)
theorem rowsP_ok (nu : Bool) (ts : List Int) (hs : ∀ c ∈ ts, c ∈ SG) : ∀ p ∈ rowsP nu ts, OkR p := by
  cases nu with
  | false =>
    intro p hp
    obtain ⟨c, hc, rfl⟩ := List.mem_map.mp hp
    exact e1_ok c (hs c hc)
  | true =>
    intro p hp
    obtain ⟨x, hx, hp⟩ := List.mem_flatMap.mp hp
    have := tok_ok ts hs x hx
    cases x with
    | inl c =>
      have : p = (fst1 c, thd1 c) := by simpa [tokP] using hp
      subst this
      exact e1_ok c ‹_›
    | inr ds => exact figP_ok (fun y hy => this y (strip_mem hy)) p hp
noncomputable def tokN : Int ⊕ List Int → Nat
  | .inl _ => 1
  | .inr ds => 2 + ds.length
theorem tokP_len (x : Int ⊕ List Int) : (tokP x).length ≤ tokN x := by
  cases x with
  | inl c => exact Nat.le_refl _
  | inr ds => show (figP (strip ds)).length ≤ 2 + ds.length; unfold figP; rw [List.length_cons, List.length_cons, List.length_map]; have := strip_len ds; omega
theorem tok_len : ∀ ts : List Int, ((tok ts).map tokN).sum ≤ 3 * ts.length
  | [] => Nat.le_refl _
  | c :: r => by
    have ih := tok_len r
    rw [List.length_cons]
    unfold tok
    split
    · split
      · rename_i ds t e
        rw [e, List.map_cons, List.sum_cons] at ih
        rw [List.map_cons, List.sum_cons]
        show 2 + (ds.length + 1) + _ ≤ _
        have : tokN (.inr ds) = 2 + ds.length := rfl
        omega
      · rw [List.map_cons, List.sum_cons]
        show 2 + 1 + _ ≤ _
        omega
    · rw [List.map_cons, List.sum_cons]
      show 1 + _ ≤ _
      omega
theorem rowsP_len (nu : Bool) (ts : List Int) : (rowsP nu ts).length ≤ 3 * ts.length := by
  cases nu with
  | false => unfold rowsP; rw [List.length_map]; omega
  | true =>
    refine Nat.le_trans ?_ (tok_len ts)
    show ((tok ts).flatMap tokP).length ≤ _
    generalize tok ts = l
    induction l with
    | nil => exact Nat.le_refl _
    | cons x l ih =>
      rw [List.flatMap_cons, List.length_append, List.map_cons, List.sum_cons]
      have := tokP_len x
      omega
theorem rowsP_900 {nu : Bool} {ts : List Int} (h : TxOk ts) : (rowsP nu ts).length ≤ 900 := by have := rowsP_len nu ts; have := h.2; omega
section
variable (n : Nat) (ts : List Int) (h : TxOk ts) (s : Int) (cf : Str) (cl nu : Bool) (H : Hp) (hcf : CfOk cf) (hs : SOk s)
noncomputable def levP (s : Int) (cf : Str) (cl nu : Bool) (ts : List Int) : List (List Int) := lvls s cf cl (rowsP nu ts)
include h hcf hs
theorem c_sortkey : callFn (ev T (n + 56)) f_sort_key [.f (iF ts), .f datF, .f tblF, .f (optF s cf cl nu)] H = some (.f (iF (keyOf (levP s cf cl nu ts))), H) := by
  refine Fp (n := n + 55) rfl rfl (fs := [iF ts, datF, tblF, optF s cf cl nu]) rfl (ρ := [("text", .f (iF ts)), ("data", .f datF), ("table", .f tblF), ("options", .f (optF s cf cl nu))]) rfl (d := .f (iF (keyOf (levP s cf cl nu ts)))) (H2 := []) ⟨[("weights", wl (rowsP nu ts)), ("text", .f (iF ts)), ("data", .f datF), ("table", .f tblF), ("options", .f (optF s cf cl nu))], ?_⟩ rfl
  show Sts (n + 55) (fnT 50).2.2.names _ [] (fnT 50).2.1 _ _ _
  refine Sts.cons (ρ' := [("weights", wl (rowsP nu ts)), ("text", .f (iF ts)), ("data", .f datF), ("table", .f tblF), ("options", .f (optF s cf cl nu))]) (H' := []) (St1.asg (d := wl (rowsP nu ts)) (X2.s (Ecall (f := f_weighted) (ad := 240) (ds := [.f (.lst ((rowsP nu ts).map rowF)), .f (.str "non-ignorable"), fI 1]) (H1 := []) (by kernel_rfl) (by kernel_rfl) (xp (by rfl) (V.of (X2.s (Ecall (f := f_elements_for) (ad := 300) (ds := [.f (iF ts), .f datF, .f tblF, .f (optF s cf cl nu)]) (H1 := []) (by kernel_rfl) (by kernel_rfl) (by kernel_rfl) (c_elfor (n + 3) ts h s cf cl nu _))) (by rfl)) (by kernel_rfl)) (c_weighted (n + 38) (rowsP nu ts) (rowsP_ok nu ts h.1) (rowsP_900 h) _))) (by kernel_rfl) (by rfl) (by rfl)) ?_
  exact Sts.ret (Sreturn (xV (by rfl) (X2.s (Ecall (f := f_weights_key) (ad := 293) (ds := [wl (rowsP nu ts), .f (optF s cf cl nu), .f .none]) (H1 := []) (by kernel_rfl) (by kernel_rfl) (xp (by rfl) (by kernel_rfl) (xp (by rfl) (by kernel_rfl) (xp (by rfl) (by rcases hs with rfl | rfl | rfl <;> kernel_rfl) xvN))) (c_wkey (n + 30) (rowsP nu ts) (rowsP_ok nu ts h.1) (rowsP_900 h) s cf cl nu _ hcf hs)))))
end
end Mine

end
noncomputable section
set_option Elab.async false
set_option maxRecDepth 100000
set_option linter.unusedVariables false
/-! comparing lists -/
open PySem PySem.W
namespace Mine
noncomputable def cmpF : List Int → List Int → Option Int
  | x :: xs, y :: ys => if x = y then cmpF xs ys else some (if x < y then -1 else 1)
  | _, _ => none
noncomputable def cmpL (a b : List Int) : Int := match cmpF a b with
  | some v => v
  | none => if a.length = b.length then 0 else if a.length < b.length then -1 else 1
noncomputable abbrev scC : Sc := (fnT 51).2.2.names
noncomputable def cFor : Expr × Expr × List Stmt := forPart ((fnT 51).2.1.getD 0 default)
noncomputable def rC (a b : List Int) : Option Nat → Rho
  | none => [("one", .f (iF a)), ("other", .f (iF b))]
  | some i => [("at", fI i), ("one", .f (iF a)), ("other", .f (iF b))]
theorem neI {x y : Int} {H : Hp} : cmp .NotEq (fI x) (fI y) H = some (decide (x ≠ y)) := by
  show some (!(x == y)) = _
  congr 1
  by_cases h : x = y
  · subst h; simp
  · simp [h]
theorem ltI {x y : Int} {H : Hp} : cmp .Lt (fI x) (fI y) H = some (decide (x < y)) := rfl
theorem eqI {x y : Int} {H : Hp} : cmp .Eq (fI x) (fI y) H = some (decide (x = y)) := by
  show some (x == y) = _
  congr 1
theorem c_loop (n : Nat) (a b : List Int) (ha : a.length ≤ 5000) (hb : b.length ≤ 5000) : ∀ (k i : Nat) (o : Option Nat), i + k = min a.length b.length →
    ∃ o', forL (ev T (n + 12)) scC cFor.1 cFor.2.2 ((List.range' i k).map fun j : Nat => fI j) (rC a b o) [] = some ((match cmpF (a.drop i) (b.drop i) with | some v => Fl.ret (fI v) | none => .next), rC a b o', []) := by
  have hlim : lim = 100000 := rfl
  intro k
  induction k with
  | zero =>
    intro i o h
    refine ⟨o, ?_⟩
    have : cmpF (a.drop i) (b.drop i) = none := by
      by_cases q : a.length ≤ i
      · rw [List.drop_of_length_le q]; rfl
      · rw [List.drop_of_length_le (l := b) (by first | exact le_lim (by assumption) | omega)]; cases a.drop i <;> rfl
    rw [this]; rfl
  | succ k ih =>
    intro i o h
    have h1 : i < a.length := by omega
    have h2 : i < b.length := by omega
    have ga : (a.map fI)[i]? = some (fI a[i]) := by rw [List.getElem?_map, List.getElem?_eq_getElem h1]; rfl
    have gb : (b.map fI)[i]? = some (fI b[i]) := by rw [List.getElem?_map, List.getElem?_eq_getElem h2]; rfl
    have xa : ∀ {m p1 p2 p3}, X (m + 2) scC (rC a b (some i)) [] (.Subscript (.Name "one" p1) (.Name "at" p2) p3) (fI a[i]) := fun {m p1 p2 p3} => X.idx (a := .f (iF a)) (b := fI i) (V.nm (by kernel_rfl) (by decide)) (X.nm (by kernel_rfl) (by decide)) (getI_at (iF_lst a _) ga (by first | exact lmap (by assumption) | (rw [List.length_map]; omega))) (by rfl)
    have xb : ∀ {m p1 p2 p3}, X (m + 2) scC (rC a b (some i)) [] (.Subscript (.Name "other" p1) (.Name "at" p2) p3) (fI b[i]) := fun {m p1 p2 p3} => X.idx (a := .f (iF b)) (b := fI i) (V.nm (by kernel_rfl) (by decide)) (X.nm (by kernel_rfl) (by decide)) (getI_at (iF_lst b _) gb (by first | exact lmap (by assumption) | (rw [List.length_map]; omega))) (by rfl)
    rw [List.drop_eq_getElem_cons h1, List.drop_eq_getElem_cons h2, List.range'_succ, List.map_cons]
    unfold cmpF
    by_cases he : a[i] = b[i]
    · rw [if_pos he]
      obtain ⟨o', hr⟩ := ih (i + 1) (some i) (by first | exact le_lim (by assumption) | omega)
      refine ⟨o', FC (ρ1 := rC a b (some i)) (ρ2 := rC a b (some i)) (H2 := []) (by cases o <;> kernel_rfl) ?_ hr⟩
      show Sts (n + 11) scC (rC a b (some i)) [] cFor.2.2 _ _ _
      exact Sts.cons (ρ' := rC a b (some i)) (H' := []) (St1.ifF (B.cmp (V.of xa (by rfl)) (V.of xb (by rfl)) (by rw [neI, decide_eq_false (by simpa using he)]) (by rfl)) (by rfl)) Sts.nil
    · rw [if_neg he]
      refine ⟨some i, ?_⟩
      refine bd (a := rC a b (some i)) (by cases o <;> kernel_rfl) (bd (a := (.ret (fI (if a[i] < b[i] then -1 else 1)), rC a b (some i), [])) ?_ rfl)
      show Sts (n + 11) scC (rC a b (some i)) [] cFor.2.2 _ _ _
      refine Sts.ret (St1.ifT (B.cmp (V.of xa (by rfl)) (V.of xb (by rfl)) (by rw [neI, decide_eq_true he]) (by rfl)) ?_)
      show Sts (n + 10) scC (rC a b (some i)) [] _ _ _ _
      by_cases hlt : a[i] < b[i]
      · rw [if_pos hlt]
        exact Sts.ret (Sreturn (xV (by rfl) (X.ifT (B.cmp (V.of xa (by rfl)) (V.of xb (by rfl)) (by rw [ltI, decide_eq_true hlt]) (by rfl)) (by kernel_rfl))))
      · rw [if_neg hlt]
        exact Sts.ret (Sreturn (xV (by rfl) (X.ifF (B.cmp (V.of xa (by rfl)) (V.of xb (by rfl)) (by rw [ltI, decide_eq_false hlt]) (by rfl)) (by kernel_rfl))))
theorem c_cmpl (n : Nat) (a b : List Int) (ha : a.length ≤ 5000) (hb : b.length ≤ 5000) (H : Hp) : callFn (ev T (n + 14)) f_compare_lists [.f (iF a), .f (iF b)] H = some (fI (cmpL a b), H) := by
  have hlim : lim = 100000 := rfl
  obtain ⟨o, h⟩ := c_loop (n + 1) a b ha hb (min a.length b.length) 0 none (by first | exact le_lim (by assumption) | omega)
  rw [List.drop_zero, List.drop_zero] at h
  have la : ∀ {m o np p pos}, V (m + 2) scC (rC a b o) [] (.Call (.Name "len" np) [.Name "one" p] [] pos) (fI a.length) := fun {m o np p pos} => V.of (X.len (by kernel_rfl) (V.nm (d := .f (iF a)) (by cases o <;> kernel_rfl) (by decide)) (iF_lst a _) (List.length_map ..) (by first | exact le_lim (by assumption) | omega) (by rfl)) (by rfl)
  have lb : ∀ {m o np p pos}, V (m + 2) scC (rC a b o) [] (.Call (.Name "len" np) [.Name "other" p] [] pos) (fI b.length) := fun {m o np p pos} => V.of (X.len (by kernel_rfl) (V.nm (d := .f (iF b)) (by cases o <;> kernel_rfl) (by decide)) (iF_lst b _) (List.length_map ..) (by first | exact le_lim (by assumption) | omega) (by rfl)) (by rfl)
  refine Fp (n := n + 13) rfl rfl (fs := [iF a, iF b]) rfl (ρ := rC a b none) rfl (d := fI (cmpL a b)) (H2 := []) ⟨rC a b o, ?_⟩ rfl
  show Sts (n + 13) scC (rC a b none) [] (fnT 51).2.1 _ _ _
  have it : iters (ev T (n + 13)) scC cFor.2.1 (rC a b none) [] = some ((List.range' 0 (min a.length b.length)).map fun j : Nat => fI j, []) := by
    show (exV (ev T (n + 13)) scC cFor.2.1 (rC a b none) []).bind (fun x => itemsOf x.1 x.2) = _
    refine bd (a := (.f (.rng 0 (min (a.length : Int) (b.length : Int))), [])) (V.of (X2.s (EcallT (bn := "range") (ds := [fI (min (a.length : Int) (b.length : Int))]) (H1 := []) (by kernel_rfl) (xp (by rfl) (V.of (X2.s (EcallB (bn := "min") (ds := [fI a.length, fI b.length]) (H1 := []) (by kernel_rfl) (xp (by rfl) la (xp (by rfl) lb xvN)) rfl)) (by rfl)) xvN) rfl)) (by rfl)) ?_
    refine (rngI (by first | exact le_lim (by assumption) | omega)).trans ?_
    unfold rngL
    rw [show (min (a.length : Int) (b.length : Int) - 0).toNat = min a.length b.length by omega, List.range_eq_range']
    congr 2
    exact List.map_congr_left fun (j : Nat) _ => by show D.f (.int (0 + (j : Int))) = fI j; rw [Int.zero_add]
  cases hc : cmpF a b with
  | some v =>
    rw [hc] at h
    rw [show cmpL a b = v by unfold cmpL; rw [hc]]
    exact Sts.ret (Sfor (ds := (List.range' 0 (min a.length b.length)).map fun j : Nat => fI j) (H1 := []) (by kernel_rfl) it h)
  | none =>
    rw [hc] at h
    refine Sts.cons (ρ' := rC a b o) (H' := []) (Sfor (ds := (List.range' 0 (min a.length b.length)).map fun j : Nat => fI j) (H1 := []) (by kernel_rfl) it h) ?_
    have hd : cmpL a b = if a.length = b.length then 0 else if a.length < b.length then -1 else 1 := by unfold cmpL; rw [hc]
    rw [hd]
    by_cases he : a.length = b.length
    · rw [if_pos he]
      exact Sts.ret (St1.ifT (B.cmp la lb (by rw [eqI, decide_eq_true (by first | exact le_lim (by assumption) | omega)]) (by rfl)) (by cases o <;> kernel_rfl))
    · rw [if_neg he]
      refine Sts.cons (ρ' := rC a b o) (H' := []) (St1.ifF (B.cmp la lb (by rw [eqI, decide_eq_false (by first | exact le_lim (by assumption) | omega)]) (by rfl)) (by rfl)) ?_
      by_cases hlt : a.length < b.length
      · rw [if_pos hlt]
        exact Sts.ret (Sreturn (xV (by rfl) (X.ifT (B.cmp la lb (ltB true (by simpa using hlt)) (by rfl)) (by cases o <;> kernel_rfl))))
      · rw [if_neg hlt]
        exact Sts.ret (Sreturn (xV (by rfl) (X.ifF (B.cmp la lb (ltB false (by simpa using hlt)) (by rfl)) (by cases o <;> kernel_rfl))))
end Mine

end
noncomputable section
set_option Elab.async false
set_option maxRecDepth 100000
set_option linter.unusedVariables false
/-! one level -/
open PySem PySem.W
namespace Mine
noncomputable def mks (s : Int) (cl : Bool) : List Int := [1] ++ (if 2 ≤ s then [2] else []) ++ (if cl = true then [5] else []) ++ (if 3 ≤ s then [3] else [])
noncomputable def lev (cf : Str) (es : List Row) (k : Int) : List Int := if k = 1 then es.map (·.1) else if k = 2 then es.map fun _ => 32 else if k = 5 then es.map fun p => csT cf p.2 else es.map fun p => thT cf p.2
theorem lvls_mks (s : Int) (cf : Str) (cl : Bool) (es : List Row) : lvls s cf cl es = (mks s cl).map (lev cf es) := by
  unfold lvls mks
  by_cases h2 : 2 ≤ s <;> by_cases h3 : 3 ≤ s <;> cases cl <;> simp [h2, h3, lev]
theorem mks_ok (s : Int) (cl : Bool) : (∀ k ∈ mks s cl, k = 1 ∨ k = 2 ∨ k = 5 ∨ k = 3) ∧ (mks s cl).length ≤ 4 := by
  unfold mks
  by_cases h2 : 2 ≤ s <;> by_cases h3 : 3 ≤ s <;> cases cl <;> simp [h2, h3]
noncomputable def lvD (l : Option (List Int)) : D := match l with
  | some l => .f (iF l)
  | none => .f .none
noncomputable def rV (es : List Row) (s : Int) (cf : Str) (cl nu : Bool) (k : Nat) : Rho := [("makers", .own 0), ("weights", wl es), ("number", fI k), ("options", .f (optF s cf cl nu))]
noncomputable abbrev scV : Sc := (fnT 47).2.2.names
section
variable (n : Nat) (es : List Row) (hp : ∀ p ∈ es, OkR p) (hl : es.length ≤ 900) (s : Int) (cf : Str) (cl nu : Bool) (H : Hp) (hcf : CfOk cf) (hs : SOk s)
include hl hp hcf hs
theorem c_level (k : Nat) : callFn (ev T (n + 20)) f_collkey_level [wl es, fI k, .f (optF s cf cl nu)] H = some (lvD ((lvls s cf cl es)[k]?), H) := by
  have hlim : lim = 100000 := rfl
  obtain ⟨mk1, mk2⟩ := mks_ok s cl
  have hf : ∃ v, lvD ((lvls s cf cl es)[k]?) = .f v := by cases (lvls s cf cl es)[k]? <;> exact ⟨_, rfl⟩
  obtain ⟨v, hv⟩ := hf
  rw [hv]
  refine Fp (n := n + 19) rfl rfl (fs := [.lst (es.map wF), .int k, optF s cf cl nu]) rfl (ρ := [("weights", wl es), ("number", fI k), ("options", .f (optF s cf cl nu))]) rfl (d := .f v) (H2 := [.lst ((mks s cl).map fI)]) ⟨rV es s cf cl nu k, ?_⟩ rfl
  show Sts (n + 19) scV _ [] (fnT 47).2.1 _ _ _
  rw [← hv]
  have s0 : St1 (n + 19) scV [("weights", wl es), ("number", fI k), ("options", .f (optF s cf cl nu))] [] ((fnT 47).2.1.getD 0 default) .next (rV es s cf cl nu k) [.lst [fI 1]] := by kernel_rfl
  have pre : ∃ H1 H2 H3, St1 (n + 19) scV (rV es s cf cl nu k) [.lst [fI 1]] ((fnT 47).2.1.getD 1 default) .next (rV es s cf cl nu k) H1 ∧ St1 (n + 19) scV (rV es s cf cl nu k) H1 ((fnT 47).2.1.getD 2 default) .next (rV es s cf cl nu k) H2 ∧ St1 (n + 19) scV (rV es s cf cl nu k) H2 ((fnT 47).2.1.getD 3 default) .next (rV es s cf cl nu k) H3 ∧ St1 (n + 19) scV (rV es s cf cl nu k) H3 ((fnT 47).2.1.getD 4 default) .next (rV es s cf cl nu k) [.lst ((mks s cl).map fI)] := by
    rcases hs with rfl | rfl | rfl
    · cases cl
      · exact ⟨[.lst [fI 1]], [.lst [fI 1]], [.lst [fI 1]], by kernel_rfl, by kernel_rfl, by kernel_rfl, by kernel_rfl⟩
      · exact ⟨[.lst [fI 1]], [.lst [fI 1, fI 5]], [.lst [fI 1, fI 5]], by kernel_rfl, by kernel_rfl, by kernel_rfl, by kernel_rfl⟩
    · cases cl
      · exact ⟨[.lst [fI 1, fI 2]], [.lst [fI 1, fI 2]], [.lst [fI 1, fI 2]], by kernel_rfl, by kernel_rfl, by kernel_rfl, by kernel_rfl⟩
      · exact ⟨[.lst [fI 1, fI 2]], [.lst [fI 1, fI 2, fI 5]], [.lst [fI 1, fI 2, fI 5]], by kernel_rfl, by kernel_rfl, by kernel_rfl, by kernel_rfl⟩
    · cases cl
      · exact ⟨[.lst [fI 1, fI 2]], [.lst [fI 1, fI 2]], [.lst [fI 1, fI 2, fI 3]], by kernel_rfl, by kernel_rfl, by kernel_rfl, by kernel_rfl⟩
      · exact ⟨[.lst [fI 1, fI 2]], [.lst [fI 1, fI 2, fI 5]], [.lst [fI 1, fI 2, fI 5, fI 3]], by kernel_rfl, by kernel_rfl, by kernel_rfl, by kernel_rfl⟩
  obtain ⟨H1, H2, H3, s1, s2, s3, s4⟩ := pre
  refine Sts.cons s0 (Sts.cons s1 (Sts.cons s2 (Sts.cons s3 (Sts.cons s4 ?_))))
  have lm : ∀ {m np p pos}, V (m + 2) scV (rV es s cf cl nu k) [.lst ((mks s cl).map fI)] (.Call (.Name "len" np) [.Name "makers" p] [] pos) (fI (mks s cl).length) := fun {m np p pos} => V.of (X.len (by kernel_rfl) (V.nm (d := .own 0) (by kernel_rfl) (by decide)) (ds := (mks s cl).map fI) (by rfl) (List.length_map ..) (by first | exact le_lim (by assumption) | omega) (by rfl)) (by rfl)
  rw [lvls_mks, List.getElem?_map]
  cases hk : (mks s cl)[k]? with
  | none =>
    have : (mks s cl).length ≤ k := List.getElem?_eq_none_iff.mp hk
    exact Sts.ret (St1.ifT (B.cmp (V.nm (d := fI k) (by kernel_rfl) (by decide)) lm (by show some (decide (((mks s cl).length : Int) ≤ (k : Int))) = _; rw [decide_eq_true (by first | exact le_lim (by assumption) | omega)]) (by rfl)) (by kernel_rfl))
  | some x =>
    have hlt := (List.getElem?_eq_some_iff.mp hk).1
    have hx := mk1 x (List.mem_of_getElem? hk)
    have at_ : ∀ {m p1 p2 p3}, V (m + 2) scV (rV es s cf cl nu k) [.lst ((mks s cl).map fI)] (.Subscript (.Name "makers" p1) (.Name "number" p2) p3) (fI x) := fun {m p1 p2 p3} => V.of (X.idx (a := .own 0) (b := fI k) (V.nm (by kernel_rfl) (by decide)) (X.nm (by kernel_rfl) (by decide)) (getI_at (l := (mks s cl).map fI) (by rfl) (by rw [List.getElem?_map, hk]; rfl) (by first | exact lmap (by assumption) | (rw [List.length_map]; omega))) (by rfl)) (by rfl)
    have call : ∀ {m : Nat} (f : Fn) (nm : Str) (ad : Addr) (d : D) (np p1 p2 p3 : Pos), var T scV (rV es s cf cl nu k) nm = some (.f (.glob (.ref ad))) → nameOk nm = true → T.fns ad = some f → callFn (ev T (m + 1)) f [wl es, .f (optF s cf cl nu)] [.lst ((mks s cl).map fI)] = some (d, [.lst ((mks s cl).map fI)]) →
      X (m + 2) scV (rV es s cf cl nu k) [.lst ((mks s cl).map fI)] (.Call (.Name nm np) [.Name "weights" p1, .Name "options" p2] [] p3) d := fun {m} f nm ad d np p1 p2 p3 h1 h2 h3 h4 =>
      X2.s (Ecall (H1 := [.lst ((mks s cl).map fI)]) (X.nm h1 h2) h3 (xp (by rfl) (V.nm (by kernel_rfl) (by decide)) (xp (by rfl) (V.nm (by kernel_rfl) (by decide)) xvN)) h4)
    refine Sts.cons (ρ' := rV es s cf cl nu k) (H' := [.lst ((mks s cl).map fI)]) (St1.ifF (B.cmp (V.nm (d := fI k) (by kernel_rfl) (by decide)) lm (by show some (decide (((mks s cl).length : Int) ≤ (k : Int))) = _; rw [decide_eq_false (by first | exact le_lim (by assumption) | omega)]) (by rfl)) (by rfl)) ?_
    show Sts (n + 19) scV _ _ _ (.ret (.f (iF (lev cf es x)))) _ _
    by_cases h1 : x = 1
    · subst h1
      refine Sts.ret (St1.ifT (B.cmp (b := fI 1) at_ (by kernel_rfl) (by rw [eqI]; rfl) (by rfl)) ?_)
      show Sts (n + 18) scV _ _ _ _ _ _
      exact Sts.ret (Sreturn (xV (by rfl) (call f_collkey_first "collkey_first" 253 _ _ _ _ _ (by kernel_rfl) (by decide) (by kernel_rfl) (c_first (n + 5) es hp hl s cf cl nu _))))
    refine Sts.cons (ρ' := rV es s cf cl nu k) (H' := [.lst ((mks s cl).map fI)]) (St1.ifF (B.cmp (b := fI 1) at_ (by kernel_rfl) (by rw [eqI, decide_eq_false h1]) (by rfl)) (by rfl)) ?_
    by_cases h2 : x = 2
    · subst h2
      refine Sts.ret (St1.ifT (B.cmp (b := fI 2) at_ (by kernel_rfl) (by rw [eqI]; rfl) (by rfl)) ?_)
      show Sts (n + 18) scV _ _ _ _ _ _
      exact Sts.ret (Sreturn (xV (by rfl) (call f_collkey_second "collkey_second" 258 _ _ _ _ _ (by kernel_rfl) (by decide) (by kernel_rfl) (c_second (n + 5) es hp hl s cf cl nu _))))
    refine Sts.cons (ρ' := rV es s cf cl nu k) (H' := [.lst ((mks s cl).map fI)]) (St1.ifF (B.cmp (b := fI 2) at_ (by kernel_rfl) (by rw [eqI, decide_eq_false h2]) (by rfl)) (by rfl)) ?_
    by_cases h5 : x = 5
    · subst h5
      refine Sts.ret (St1.ifT (B.cmp (b := fI 5) at_ (by kernel_rfl) (by rw [eqI]; rfl) (by rfl)) ?_)
      show Sts (n + 18) scV _ _ _ _ _ _
      exact Sts.ret (Sreturn (xV (by rfl) (call f_collkey_case "collkey_case" 263 _ _ _ _ _ (by kernel_rfl) (by decide) (by kernel_rfl) (c_case (n + 3) es hp hl s cf cl nu _ hcf))))
    refine Sts.cons (ρ' := rV es s cf cl nu k) (H' := [.lst ((mks s cl).map fI)]) (St1.ifF (B.cmp (b := fI 5) at_ (by kernel_rfl) (by rw [eqI, decide_eq_false h5]) (by rfl)) (by rfl)) ?_
    have h3 : x = 3 := by rcases hx with h | h | h | h <;> first | exact absurd h h1 | exact absurd h h2 | exact absurd h h5 | exact h
    subst h3
    exact Sts.ret (Sreturn (xV (by rfl) (X.ifT (B.cmp (b := fI 3) at_ (by kernel_rfl) (by rw [eqI]; rfl) (by rfl)) (call f_collkey_third "collkey_third" 268 _ _ _ _ _ (by kernel_rfl) (by decide) (by kernel_rfl) (c_third (n + 3) es hp hl s cf cl nu _ hcf)))))
end
end Mine

end
noncomputable section
set_option Elab.async false
set_option maxRecDepth 100000
set_option linter.unusedVariables false
/-! comparing texts -/
open PySem PySem.W
namespace Mine
noncomputable def cmpW : List (List Int) → List (List Int) → Int
  | a :: as, b :: bs => if cmpL a b = 0 then cmpW as bs else cmpL a b
  | _, _ => 0
theorem WR {n : Nat} {sc : Sc} {ρ ρ2 : Rho} {H H1 H2 : Hp} {R : Rec} {c : Expr} {body : List Stmt} {d : D} (h1 : R.ts sc c ρ H = some (true, H1)) (h2 : R.st sc body ρ H1 = some (.ret d, ρ2, H2)) : whileL R sc c body (n + 1) ρ H = some (.ret d, ρ2, H2) := bd h1 (bd h2 rfl)
noncomputable abbrev scX : Sc := (fnT 52).2.2.names
noncomputable def cwWh : Expr × List Stmt := whPart ((fnT 52).2.1.getD 1 default)
section
variable (e1 e2 : List Row) (op : F)
noncomputable def bX : Rho := [("one", wl e1), ("other", wl e2), ("options", .f op)]
noncomputable def rX (k : Nat) (t : Int) : Option (D × D) → Rho
  | none => ("told", fI t) :: ("number", fI k) :: bX e1 e2 op
  | some (u, v) => ("number", fI k) :: ("told", fI t) :: ("far", v) :: ("near", u) :: bX e1 e2 op
noncomputable def rX1 (k : Nat) (t : Int) (u v : D) : Option (D × D) → Rho
  | none => ("far", v) :: ("near", u) :: ("told", fI t) :: ("number", fI k) :: bX e1 e2 op
  | some _ => ("far", v) :: ("near", u) :: ("number", fI k) :: ("told", fI t) :: bX e1 e2 op
noncomputable def rX2 (k : Nat) (t : Int) (u v : D) : Rho := ("told", fI t) :: ("far", v) :: ("near", u) :: ("number", fI k) :: bX e1 e2 op
end
section
variable (n : Nat) (es es' : List Row) (hp : ∀ p ∈ es, OkR p) (hl : es.length ≤ 900) (hp' : ∀ p ∈ es', OkR p) (hl' : es'.length ≤ 900) (s : Int) (cf : Str) (cl nu : Bool) (H : Hp) (hcf : CfOk cf) (hs : SOk s)
include hl hp hl' hp' hcf hs
theorem cw_loop : ∀ (m k : Nat) (o : Option (D × D)) (fuel : Nat), k + m = (mks s cl).length → m < fuel →
    ∃ fl ρ', whileL (ev T (n + 26)) scX cwWh.1 cwWh.2 fuel (rX es es' (optF s cf cl nu) k 0 o) [] = some (fl, ρ', []) ∧ ((fl = .ret (fI (cmpW ((lvls s cf cl es).drop k) ((lvls s cf cl es').drop k)))) ∨ (fl = .next ∧ var T scX ρ' "told" = some (fI (cmpW ((lvls s cf cl es).drop k) ((lvls s cf cl es').drop k))))) := by
  have hlen : (lvls s cf cl es).length = (mks s cl).length := by rw [lvls_mks, List.length_map]
  have hlen' : (lvls s cf cl es').length = (mks s cl).length := by rw [lvls_mks, List.length_map]
  have asg : ∀ (k : Nat) (o : Option (D × D)), St1 (n + 25) scX (rX es es' (optF s cf cl nu) k 0 o) [] (cwWh.2.getD 0 default) .next (rX1 es es' (optF s cf cl nu) k 0 (lvD ((lvls s cf cl es)[k]?)) (lvD ((lvls s cf cl es')[k]?)) o) [] := fun k o => by
    have hf : ∃ v, lvD ((lvls s cf cl es)[k]?) = .f v := by cases (lvls s cf cl es)[k]? <;> exact ⟨_, rfl⟩
    have hf' : ∃ v, lvD ((lvls s cf cl es')[k]?) = .f v := by cases (lvls s cf cl es')[k]? <;> exact ⟨_, rfl⟩
    have c1 := c_level (n + 3) es hp hl s cf cl nu [] hcf hs k
    have c2 := c_level (n + 3) es' hp' hl' s cf cl nu [] hcf hs k
    obtain ⟨v, hv⟩ := hf
    obtain ⟨v', hv'⟩ := hf'
    rw [hv] at c1 ⊢
    rw [hv'] at c2 ⊢
    refine St1.asgT (d := .f (.tup [v, v'])) (X2.s (Etup (ds := [.f v, .f v']) (by rfl) (xsp (by rfl) (X2.s (Ecall (f := f_collkey_level) (ad := 287) (ds := [wl es, fI k, .f (optF s cf cl nu)]) (H1 := []) (by kernel_rfl) (by kernel_rfl) (by cases o <;> kernel_rfl) c1)) (xsp (by rfl) (X2.s (Ecall (f := f_collkey_level) (ad := 287) (ds := [wl es', fI k, .f (optF s cf cl nu)]) (H1 := []) (by kernel_rfl) (by kernel_rfl) (by cases o <;> kernel_rfl) c2)) xsN)))) (by cases o <;> kernel_rfl) (by kernel_rfl) (by rfl)
  intro m
  induction m with
  | zero =>
    intro k o fuel hk hf
    cases fuel with
    | zero => exact absurd hf (Nat.lt_irrefl _)
    | succ fuel =>
      have a0 := asg k o
      rw [List.getElem?_eq_none (by first | exact le_lim (by assumption) | omega), List.getElem?_eq_none (by first | exact le_lim (by assumption) | omega)] at a0
      rw [List.drop_of_length_le (by first | exact le_lim (by assumption) | omega), List.drop_of_length_le (by first | exact le_lim (by assumption) | omega)]
      refine ⟨.ret (fI 0), rX1 es es' (optF s cf cl nu) k 0 (.f .none) (.f .none) o, WR (H1 := []) (by cases o <;> kernel_rfl) ?_, .inl rfl⟩
      show Sts (n + 25) scX (rX es es' (optF s cf cl nu) k 0 o) [] cwWh.2 _ _ _
      exact Sts.cons a0 (Sts.ret (by cases o <;> kernel_rfl))
  | succ m ih =>
    intro k o fuel hk hf
    cases fuel with
    | zero => exact absurd hf (Nat.not_lt_zero _)
    | succ fuel =>
      have a0 := asg k o
      have h1 : k < (lvls s cf cl es).length := by omega
      have h2 : k < (lvls s cf cl es').length := by omega
      rw [List.getElem?_eq_getElem h1, List.getElem?_eq_getElem h2] at a0
      rw [List.drop_eq_getElem_cons h1, List.drop_eq_getElem_cons h2]
      have b1 := (lvls_sum es s cf cl hl).1
      have b2 := (lvls_sum es' s cf cl hl').1
      have mem_sum : ∀ (l : List (List Int)) (x : List Int), x ∈ l → x.length ≤ sumL l := fun l x hx => by
        unfold sumL
        have : ∀ (l : List (List Int)), x ∈ l → x.length ≤ (l.map List.length).sum := by
          intro l
          induction l with
          | nil => intro h; cases h
          | cons y r ihl =>
            intro h
            rw [List.map_cons, List.sum_cons]
            rcases List.mem_cons.mp h with rfl | h
            · omega
            · have := ihl h; omega
        have := this l hx
        omega
      have l1 := mem_sum _ _ (List.getElem_mem h1)
      have l2 := mem_sum _ _ (List.getElem_mem h2)
      generalize (lvls s cf cl es)[k] = u at *
      generalize (lvls s cf cl es')[k] = v at *
      have body : (ev T (n + 26)).st scX cwWh.2 (rX es es' (optF s cf cl nu) k 0 o) [] = some (.next, rX es es' (optF s cf cl nu) (k + 1) (cmpL u v) (some (.f (iF u), .f (iF v))), []) := by
        show Sts (n + 25) scX (rX es es' (optF s cf cl nu) k 0 o) [] cwWh.2 _ _ _
        exact Sts.cons a0 (Sts.cons (ρ' := rX1 es es' (optF s cf cl nu) k 0 (.f (iF u)) (.f (iF v)) o) (H' := []) (by cases o <;> kernel_rfl) (Sts.cons (ρ' := rX2 es es' (optF s cf cl nu) k (cmpL u v) (.f (iF u)) (.f (iF v))) (H' := []) (St1.asg (d := fI (cmpL u v)) (X2.s (Ecall (f := f_compare_lists) (ad := 314) (ds := [.f (iF u), .f (iF v)]) (H1 := []) (by kernel_rfl) (by kernel_rfl) (by cases o <;> kernel_rfl) (c_cmpl (n + 10) u v (by first | exact le_lim (by assumption) | omega) (by first | exact le_lim (by assumption) | omega) _))) (by cases o <;> kernel_rfl) (by rfl) (by rfl)) (Sts.cons (ρ' := rX es es' (optF s cf cl nu) (k + 1) (cmpL u v) (some (.f (iF u), .f (iF v)))) (H' := []) (by kernel_rfl) Sts.nil)))
      unfold cmpW
      by_cases hz : cmpL u v = 0
      · rw [if_pos hz]
        rw [hz] at body
        obtain ⟨fl, ρ', w, r⟩ := ih (k + 1) (some (.f (iF u), .f (iF v))) fuel (by first | exact le_lim (by assumption) | omega) (by first | exact le_lim (by assumption) | omega)
        exact ⟨fl, ρ', WT (H1 := []) (by cases o <;> kernel_rfl) body w, r⟩
      · rw [if_neg hz]
        cases fuel with
        | zero => omega
        | succ fuel =>
          refine ⟨.next, rX es es' (optF s cf cl nu) (k + 1) (cmpL u v) (some (.f (iF u), .f (iF v))), WT (H1 := []) (by cases o <;> kernel_rfl) body (WF ?_), .inr ⟨rfl, by kernel_rfl⟩⟩
          show B (n + 26) scX (rX es es' (optF s cf cl nu) (k + 1) (cmpL u v) (some (.f (iF u), .f (iF v)))) [] cwWh.1 false
          exact B.cmp (a := fI (cmpL u v)) (b := fI 0) (by kernel_rfl) (by kernel_rfl) (by rw [eqI, decide_eq_false hz]) (by rfl)
theorem c_cmpw : callFn (ev T (n + 27)) f_compare_weights [wl es, wl es', .f (optF s cf cl nu)] H = some (fI (cmpW (lvls s cf cl es) (lvls s cf cl es')), H) := by
  obtain ⟨fl, ρ', w, r⟩ := cw_loop n es es' hp hl hp' hl' s cf cl nu hcf hs (mks s cl).length 0 none 200 (by first | exact le_lim (by assumption) | omega) (by have := (mks_ok s cl).2; omega)
  rw [List.drop_zero, List.drop_zero] at r
  refine Fp (n := n + 26) rfl rfl (fs := [.lst (es.map wF), .lst (es'.map wF), optF s cf cl nu]) rfl (ρ := bX es es' (optF s cf cl nu)) rfl (d := fI (cmpW (lvls s cf cl es) (lvls s cf cl es'))) (H2 := []) ⟨ρ', ?_⟩ rfl
  show Sts (n + 26) scX (bX es es' (optF s cf cl nu)) [] (fnT 52).2.1 _ _ _
  refine Sts.cons (ρ' := rX es es' (optF s cf cl nu) 0 0 none) (H' := []) (by kernel_rfl) ?_
  rcases r with rfl | ⟨rfl, hv⟩
  · exact Sts.ret (St1.wh w)
  · exact Sts.cons (ρ' := ρ') (H' := []) (St1.wh w) (Sts.ret (Sreturn (V.nm hv (by decide))))
end
theorem c_compare (n : Nat) (a b : List Int) (ha : TxOk a) (hb : TxOk b) (s : Int) (cf : Str) (cl nu : Bool) (H : Hp) (hcf : CfOk cf) (hs : SOk s) : callFn (ev T (n + 56)) f_compare [.f (iF a), .f (iF b), .f datF, .f tblF, .f (optF s cf cl nu)] H = some (fI (cmpW (levP s cf cl nu a) (levP s cf cl nu b)), H) := by
  generalize hρ : ([("one", .f (iF a)), ("other", .f (iF b)), ("data", .f datF), ("table", .f tblF), ("options", .f (optF s cf cl nu))] : Rho) = ρ0
  refine Fp (n := n + 55) rfl rfl (fs := [iF a, iF b, datF, tblF, optF s cf cl nu]) rfl (ρ := ρ0) (by rw [← hρ]; rfl) (d := fI (cmpW (levP s cf cl nu a) (levP s cf cl nu b))) (H2 := []) ⟨("told", fI (cmpW (levP s cf cl nu a) (levP s cf cl nu b))) :: ("far", wl (rowsP nu b)) :: ("near", wl (rowsP nu a)) :: ρ0, ?_⟩ rfl
  show Sts (n + 55) (fnT 53).2.2.names ρ0 [] (fnT 53).2.1 _ _ _
  subst hρ
  refine Sts.cons (ρ' := ("near", wl (rowsP nu a)) :: [("one", .f (iF a)), ("other", .f (iF b)), ("data", .f datF), ("table", .f tblF), ("options", .f (optF s cf cl nu))]) (H' := []) (St1.asg (d := wl (rowsP nu a)) (X2.s (Ecall (f := f_weighted) (ad := 240) (ds := [.f (.lst ((rowsP nu a).map rowF)), .f (.str "non-ignorable"), fI 1]) (H1 := []) (by kernel_rfl) (by kernel_rfl) (xp (by rfl) (V.of (X2.s (Ecall (f := f_elements_for) (ad := 300) (ds := [.f (iF a), .f datF, .f tblF, .f (optF s cf cl nu)]) (H1 := []) (by kernel_rfl) (by kernel_rfl) (by kernel_rfl) (c_elfor (n + 3) a ha s cf cl nu _))) (by rfl)) (by kernel_rfl)) (c_weighted (n + 38) (rowsP nu a) (rowsP_ok nu a ha.1) (rowsP_900 ha) _))) (by kernel_rfl) (by rfl) (by rfl)) ?_
  refine Sts.cons (ρ' := ("far", wl (rowsP nu b)) :: ("near", wl (rowsP nu a)) :: [("one", .f (iF a)), ("other", .f (iF b)), ("data", .f datF), ("table", .f tblF), ("options", .f (optF s cf cl nu))]) (H' := []) (St1.asg (d := wl (rowsP nu b)) (X2.s (Ecall (f := f_weighted) (ad := 240) (ds := [.f (.lst ((rowsP nu b).map rowF)), .f (.str "non-ignorable"), fI 1]) (H1 := []) (by kernel_rfl) (by kernel_rfl) (xp (by rfl) (V.of (X2.s (Ecall (f := f_elements_for) (ad := 300) (ds := [.f (iF b), .f datF, .f tblF, .f (optF s cf cl nu)]) (H1 := []) (by kernel_rfl) (by kernel_rfl) (by kernel_rfl) (c_elfor (n + 3) b hb s cf cl nu _))) (by rfl)) (by kernel_rfl)) (c_weighted (n + 38) (rowsP nu b) (rowsP_ok nu b hb.1) (rowsP_900 hb) _))) (by kernel_rfl) (by rfl) (by rfl)) ?_
  refine Sts.cons (ρ' := ("told", fI (cmpW (levP s cf cl nu a) (levP s cf cl nu b))) :: ("far", wl (rowsP nu b)) :: ("near", wl (rowsP nu a)) :: [("one", .f (iF a)), ("other", .f (iF b)), ("data", .f datF), ("table", .f tblF), ("options", .f (optF s cf cl nu))]) (H' := []) (St1.asg (d := fI (cmpW (levP s cf cl nu a) (levP s cf cl nu b))) (X2.s (Ecall (f := f_compare_weights) (ad := 321) (ds := [wl (rowsP nu a), wl (rowsP nu b), .f (optF s cf cl nu)]) (H1 := []) (by kernel_rfl) (by kernel_rfl) (by kernel_rfl) (c_cmpw (n + 27) (rowsP nu a) (rowsP nu b) (rowsP_ok nu a ha.1) (rowsP_900 ha) (rowsP_ok nu b hb.1) (rowsP_900 hb) s cf cl nu _ hcf hs))) (by kernel_rfl) (by rfl) (by rfl)) ?_
  refine Sts.cons (ρ' := ("told", fI (cmpW (levP s cf cl nu a) (levP s cf cl nu b))) :: ("far", wl (rowsP nu b)) :: ("near", wl (rowsP nu a)) :: [("one", .f (iF a)), ("other", .f (iF b)), ("data", .f datF), ("table", .f tblF), ("options", .f (optF s cf cl nu))]) (H' := []) (St1.ifF ?_ (by rfl)) (Sts.ret (by kernel_rfl))
  by_cases hz : cmpW (levP s cf cl nu a) (levP s cf cl nu b) = 0
  · exact B.andT (B.cmp (a := fI (cmpW (levP s cf cl nu a) (levP s cf cl nu b))) (b := fI 0) (by kernel_rfl) (by kernel_rfl) (by rw [eqI, decide_eq_true hz]) (by rfl)) (by rcases hs with rfl | rfl | rfl <;> kernel_rfl)
  · exact B.andF (B.cmp (a := fI (cmpW (levP s cf cl nu a) (levP s cf cl nu b))) (b := fI 0) (by kernel_rfl) (by kernel_rfl) (by rw [eqI, decide_eq_false hz]) (by rfl))
end Mine

end
noncomputable section
set_option Elab.async false
set_option maxRecDepth 100000
set_option linter.unusedVariables false
/-! bounds -/
open PySem PySem.W
namespace Mine
theorem getI_last {l : List D} {d : D} {H : Hp} {x : D} (hl : asLst d H = some l) (hx : l.getLast? = some x) (hm : l.length ≤ lim) : getI d (fI (-1)) H = some x := by
  unfold getI seqOf
  rw [hl]
  show (idx (-1) l.length).bind _ = _
  have hne : l ≠ [] := fun e => by rw [e] at hx; cases hx
  have hpos : 0 < l.length := List.length_pos_iff.mpr hne
  have : idx (-1) l.length = some (l.length - 1) := by
    unfold idx
    rw [if_neg (by first | exact le_lim (by assumption) | omega), if_neg (by first | exact le_lim (by assumption) | omega), if_pos (by first | exact le_lim (by assumption) | omega)]
    congr 1; omega
  rw [this, List.getLast?_eq_getElem?] at *
  exact hx
theorem slice_init (fs : List F) : sliceL none (some (-1)) fs = fs.dropLast := by
  have h1 : ∀ n : Nat, clp n (-1) = n - 1 := fun n => by
    cases n with
    | zero => rfl
    | succ n =>
      unfold clp
      rw [if_pos (by decide), show (-1 + ((n + 1 : Nat) : Int)) = (n : Int) from (congrArg (-1 + ·) (Int.add_comm (n : Int) 1)).trans (Int.neg_add_cancel_left 1 n), Int.min_eq_left (Int.ofNat_le.mpr (Nat.le_succ n)), Int.max_eq_right (Int.natCast_nonneg n), Int.toNat_natCast]; rfl
  show (fs.take (clp fs.length (-1))).drop 0 = _
  rw [h1, List.drop_zero, List.dropLast_eq_take]
noncomputable def pbF (L : List Int) : F := match L with
  | [] => .tup [.lst [], .none]
  | x :: r => .tup [iF (x :: r), iF ((x :: r).dropLast ++ [(x :: r).getLast (by simp) + 1])]
theorem eqNil {l : List Int} {H : Hp} : cmp .Eq (.f (iF l)) (.f (.lst [])) H = some (decide (l = [])) := by
  cases l <;> rfl
theorem c_bounds (n : Nat) (a : List Int) (ha : TxOk a) (s : Int) (cf : Str) (cl nu : Bool) (H : Hp) : callFn (ev T (n + 56)) f_prefix_bounds [.f (iF a), .f datF, .f tblF, .f (optF s cf cl nu)] H = some (.f (pbF ((rowsP nu a).map (·.1))), H) := by
  have hlim : lim = 100000 := rfl
  have h900 := rowsP_900 (nu := nu) ha
  have ll : ((rowsP nu a).map (·.1)).length ≤ 900 := by rw [List.length_map]; exact h900
  generalize hL : (rowsP nu a).map (·.1) = L at *
  have base : ∀ (v : F) (d : D) (H2 H3 : Hp), fz fuelFz d H2 = some (v, H3) → Sts (n + 55) (fnT 59).2.2.names [("low", .f (iF L)), ("weights", wl (rowsP nu a)), ("text", .f (iF a)), ("data", .f datF), ("table", .f tblF), ("options", .f (optF s cf cl nu))] [] ((fnT 59).2.1.drop 2) (.ret d) [("low", .f (iF L)), ("weights", wl (rowsP nu a)), ("text", .f (iF a)), ("data", .f datF), ("table", .f tblF), ("options", .f (optF s cf cl nu))] H2 →
      callFn (ev T (n + 56)) f_prefix_bounds [.f (iF a), .f datF, .f tblF, .f (optF s cf cl nu)] H = some (.f v, H) := fun v d H2 H3 hz hr => by
    refine Fp (n := n + 55) rfl rfl (fs := [iF a, datF, tblF, optF s cf cl nu]) rfl (ρ := [("text", .f (iF a)), ("data", .f datF), ("table", .f tblF), ("options", .f (optF s cf cl nu))]) rfl (d := d) (H2 := H2) ⟨[("low", .f (iF L)), ("weights", wl (rowsP nu a)), ("text", .f (iF a)), ("data", .f datF), ("table", .f tblF), ("options", .f (optF s cf cl nu))], ?_⟩ hz
    show Sts (n + 55) (fnT 59).2.2.names _ [] (fnT 59).2.1 _ _ _
    refine Sts.cons (ρ' := [("weights", wl (rowsP nu a)), ("text", .f (iF a)), ("data", .f datF), ("table", .f tblF), ("options", .f (optF s cf cl nu))]) (H' := []) (St1.asg (d := wl (rowsP nu a)) (X2.s (Ecall (f := f_weighted) (ad := 240) (ds := [.f (.lst ((rowsP nu a).map rowF)), .f (.str "non-ignorable"), fI 1]) (H1 := []) (by kernel_rfl) (by kernel_rfl) (xp (by rfl) (V.of (X2.s (Ecall (f := f_elements_for) (ad := 300) (ds := [.f (iF a), .f datF, .f tblF, .f (optF s cf cl nu)]) (H1 := []) (by kernel_rfl) (by kernel_rfl) (by kernel_rfl) (c_elfor (n + 3) a ha s cf cl nu _))) (by rfl)) (by kernel_rfl)) (c_weighted (n + 38) (rowsP nu a) (rowsP_ok nu a ha.1) h900 _))) (by kernel_rfl) (by rfl) (by rfl)) ?_
    have cf1 := c_first (n + 42) (rowsP nu a) (rowsP_ok nu a ha.1) h900 s cf cl nu []
    rw [hL] at cf1
    exact Sts.cons (ρ' := [("low", .f (iF L)), ("weights", wl (rowsP nu a)), ("text", .f (iF a)), ("data", .f datF), ("table", .f tblF), ("options", .f (optF s cf cl nu))]) (H' := []) (St1.asg (d := .f (iF L)) (X2.s (Ecall (f := f_collkey_first) (ad := 253) (ds := [wl (rowsP nu a), .f (optF s cf cl nu)]) (H1 := []) (by kernel_rfl) (by kernel_rfl) (by kernel_rfl) cf1)) (by kernel_rfl) (by rfl) (by rfl)) hr
  cases L with
  | nil =>
    refine base (pbF []) (.tup [.own 0, .f .none]) [.lst []] [.frz (.lst [])] (by kernel_rfl) ?_
    exact Sts.ret (H' := [.lst []]) (by kernel_rfl)
  | cons x r =>
    refine base (pbF (x :: r)) (.f (pbF (x :: r))) [] [] rfl ?_
    refine Sts.cons (ρ' := [("low", .f (iF (x :: r))), ("weights", wl (rowsP nu a)), ("text", .f (iF a)), ("data", .f datF), ("table", .f tblF), ("options", .f (optF s cf cl nu))]) (H' := []) (St1.ifF (B.cmp (a := .f (iF (x :: r))) (b := .f (.lst [])) (by kernel_rfl) (by kernel_rfl) (by rw [eqNil]; rfl) (by rfl)) (by rfl)) ?_
    have lx : (x :: r).length ≤ 900 := ll
    have last : ((x :: r).map fI).getLast? = some (fI ((x :: r).getLast (by simp))) := by rw [List.getLast?_map, List.getLast?_eq_some_getLast (by simp)]; rfl
    refine Sts.ret (Sreturn (xV (by rfl) (X2.s (Etup (ds := [.f (iF (x :: r)), .f (iF ((x :: r).dropLast ++ [(x :: r).getLast (by simp) + 1]))]) (by rfl) (xsp (by rfl) (by kernel_rfl) (xsp (by rfl) (X.bin (a := .f (iF (x :: r).dropLast)) (b := .f (iF [(x :: r).getLast (by simp) + 1])) (V.of ?_ (by rfl)) (V.list1 (d := fI ((x :: r).getLast (by simp) + 1)) (X.bin (a := fI ((x :: r).getLast (by simp))) (b := fI 1) (V.of (X.idx (a := .f (iF (x :: r))) (b := fI (-1)) (by kernel_rfl) (by kernel_rfl) (getI_last (iF_lst (x :: r) _) last (by first | exact lmap (by assumption) | (rw [List.length_map]; omega))) (by rfl)) (by rfl)) (by kernel_rfl) rfl) rfl (by rfl)) ?_) xsN))))))
    · rw [show iF (x :: r).dropLast = .lst (sliceL none (some (-1)) ((x :: r).map F.int)) by rw [slice_init, ← List.map_dropLast]]
      exact X.slice (a := .f (iF (x :: r))) (x := .f .none) (y := fI (-1)) (V.nm (by kernel_rfl) (by decide)) rfl (by kernel_rfl) rfl (by first | exact lmap (by assumption) | (rw [List.length_map]; omega)) rfl rfl
    · refine (addC ?_).trans ?_
      · simp; simp at lx; omega
      · rw [← List.map_append]
end Mine

end
noncomputable section
set_option Elab.async false
set_option maxRecDepth 100000
set_option linter.unusedVariables false
/-! the levels of a key -/
open PySem PySem.W
namespace Mine
noncomputable def hK : List (List Int) → Hp
  | [a] => [.lst (a.map fI), .lst [.own 0]]
  | [a, b] => [.lst (a.map fI), .lst [.own 0, .own 2], .lst (b.map fI)]
  | [a, b, c] => [.lst (a.map fI), .lst [.own 0, .own 2, .own 3], .lst (b.map fI), .lst (c.map fI)]
  | [a, b, c, d] => [.lst (a.map fI), .lst [.own 0, .own 2, .own 3, .own 4], .lst (b.map fI), .lst (c.map fI), .lst (d.map fI)]
  | _ => []
noncomputable def splitZ : List Int → List Int → List (List Int)
  | l, [] => [l]
  | l, w :: r => if w = 0 then l :: splitZ [] r else splitZ (l ++ [w]) r
theorem meth_append {k : Nat} {H : Hp} {ds : List D} {d : D} (hk : H[k]? = some (.lst ds)) (hl : ds.length ≤ lim) : meth (.own k) "append" [d] H = some (.f .none, H.set k (.lst (ds ++ [d]))) := by
  unfold meth
  rw [ownL_at hk]
  exact if_pos hl
noncomputable abbrev scZ : Sc := (fnT 57).2.2.names
noncomputable def zFor : Expr × Expr × List Stmt := forPart ((fnT 57).2.1.getD 1 default)
noncomputable def rZ (key : List Int) : Option Int → Rho
  | none => [("found", .own 1), ("key", .f (iF key))]
  | some w => [("weight", fI w), ("found", .own 1), ("key", .f (iF key))]
noncomputable def zeros (l : List Int) : Nat := (l.filter (· == 0)).length
theorem z_step0 (n : Nat) (key : List Int) (pre : List (List Int)) (l : List Int) (hp : pre.length ≤ 2) : (ev T (n + 14)).st scZ zFor.2.2 (rZ key (some 0)) (hK (pre ++ [l])) = some (.next, rZ key (some 0), hK (pre ++ [l] ++ [[]])) := by
  match pre, hp with
  | [], _ => kernel_rfl
  | [a], _ => kernel_rfl
  | [a, b], _ => kernel_rfl
theorem z_step1 (n : Nat) (key : List Int) (pre : List (List Int)) (l : List Int) (w : Int) (hw : w ≠ 0) (hl : l.length ≤ 20000) (hp : pre.length ≤ 3) : (ev T (n + 14)).st scZ zFor.2.2 (rZ key (some w)) (hK (pre ++ [l])) = some (.next, rZ key (some w), hK (pre ++ [l ++ [w]])) := by
  have hlim : lim = 100000 := rfl
  have ll : (l.map fI).length ≤ lim := by rw [List.length_map]; omega
  have lw : l.map fI ++ [fI w] = (l ++ [w]).map fI := by rw [List.map_append]; rfl
  have go : ∀ (H H' : Hp) (j : Nat), (ev T (n + 11)).ex scZ (match (ifPart (zFor.2.2.getD 0 default)).2.2 with | [.Expr (.Call (.Attribute o _ _) _ _ _) _] => o | _ => default) (rZ key (some w)) H = some (.own j, H) → asIns (.own j) H = none → recvOk (.own j) "append" H = true → H[j]? = some (.lst (l.map fI)) → H.set j (.lst (l.map fI ++ [fI w])) = H' →
      (ev T (n + 14)).st scZ zFor.2.2 (rZ key (some w)) H = some (.next, rZ key (some w), H') := by
    intro H H' j h1 h2 h3 h4 h5
    show Sts (n + 13) scZ (rZ key (some w)) H zFor.2.2 _ _ _
    refine Sts.cons (ρ' := rZ key (some w)) (H' := H') (St1.ifF (B.cmp (a := fI w) (b := fI 0) (by kernel_rfl) (by kernel_rfl) (by rw [eqI, decide_eq_false hw]) (by rfl)) ?_) Sts.nil
    show Sts (n + 12) scZ (rZ key (some w)) H _ _ _ _
    subst h5
    exact Sts.cons (ρ' := rZ key (some w)) (Sexpr (by rfl) (X2.s (EmethL (d := .own j) (ds := [fI w]) (H1 := H) (H2 := H) (by rfl) (by rfl) h1 h2 h3 (by rw [if_pos rfl]; exact xsp (by rfl) (X.nm (by kernel_rfl) (by decide)) xsN) (meth_append h4 ll)))) Sts.nil
  match pre, hp with
  | [], _ => exact go _ _ 0 (by kernel_rfl) (by rfl) (by kernel_rfl) rfl (by rw [lw]; rfl)
  | [a], _ => exact go _ _ 2 (by kernel_rfl) (by rfl) (by kernel_rfl) rfl (by rw [lw]; rfl)
  | [a, b], _ => exact go _ _ 3 (by kernel_rfl) (by rfl) (by kernel_rfl) rfl (by rw [lw]; rfl)
  | [a, b, c], _ => exact go _ _ 4 (by kernel_rfl) (by rfl) (by kernel_rfl) rfl (by rw [lw]; rfl)
theorem z_loop (n : Nat) (ky : List Int) : ∀ (key : List Int) (pre : List (List Int)) (l : List Int) (o : Option Int), pre.length + zeros key ≤ 3 → l.length + key.length ≤ 20000 →
    ∃ o', forL (ev T (n + 14)) scZ zFor.1 zFor.2.2 (key.map fI) (rZ ky o) (hK (pre ++ [l])) = some (.next, rZ ky o', hK (pre ++ splitZ l key))
  | [], pre, l, o, _, _ => ⟨o, rfl⟩
  | w :: r, pre, l, o, hz, hl => by
    rw [List.length_cons] at hl
    by_cases hw : w = 0
    · subst hw
      have hz' : zeros (0 :: r) = zeros r + 1 := by unfold zeros; simp
      obtain ⟨o', h⟩ := z_loop n ky r (pre ++ [l]) [] (some 0) (by rw [List.length_append, List.length_singleton]; omega) (by rw [List.length_nil]; omega)
      refine ⟨o', FC (ρ1 := rZ ky (some 0)) (by cases o <;> kernel_rfl) (z_step0 n ky pre l (by first | exact le_lim (by assumption) | omega)) (h.trans ?_)⟩
      rw [show splitZ l (0 :: r) = l :: splitZ [] r by rw [splitZ, if_pos rfl], List.append_assoc]; rfl
    · have hz' : zeros (w :: r) = zeros r := by unfold zeros; simp [hw]
      obtain ⟨o', h⟩ := z_loop n ky r pre (l ++ [w]) (some w) (by first | exact le_lim (by assumption) | omega) (by rw [List.length_append, List.length_singleton]; omega)
      refine ⟨o', FC (ρ1 := rZ ky (some w)) (by cases o <;> kernel_rfl) (z_step1 n ky pre l w hw (by first | exact le_lim (by assumption) | omega) (by first | exact le_lim (by assumption) | omega)) (h.trans ?_)⟩
      rw [show splitZ l (w :: r) = splitZ (l ++ [w]) r by rw [splitZ, if_neg hw]]
theorem splitZ_len : ∀ (key l : List Int), (splitZ l key).length = zeros key + 1
  | [], l => rfl
  | w :: r, l => by
    by_cases hw : w = 0
    · subst hw; rw [splitZ, if_pos rfl, List.length_cons, splitZ_len r]; unfold zeros; simp
    · rw [splitZ, if_neg hw, splitZ_len r]; unfold zeros; simp [hw]
theorem fz_int (n : Nat) {k : Nat} {H : Hp} {l : List Int} (h : H[k]? = some (.lst (l.map fI))) : fz (n + 1) (.own k) H = some (iF l, H.set k (.frz (iF l))) :=
  fz_own n (fs := l.map .int) (by rw [h, List.map_map]; rfl)
theorem fz_hK : ∀ (ls : List (List Int)), 1 ≤ ls.length → ls.length ≤ 4 → ∃ H', fz fuelFz (.own 1) (hK ls) = some (.lst (ls.map iF), H')
  | [a], _, _ => ⟨_, bd (a := ([iF a], _)) (bd (fz_int 10 (k := 0) rfl) rfl) rfl⟩
  | [a, b], _, _ => by
    have h2 : fzs (fz 11) [.own 2] [.frz (iF a), .lst [.own 0, .own 2], .lst (b.map fI)] = some ([iF b], [.frz (iF a), .lst [.own 0, .own 2], .frz (iF b)]) := bd (fz_int 10 (k := 2) rfl) rfl
    have h1 : fzs (fz 11) [.own 0, .own 2] [.lst (a.map fI), .lst [.own 0, .own 2], .lst (b.map fI)] = some ([iF a, iF b], [.frz (iF a), .lst [.own 0, .own 2], .frz (iF b)]) := bd (fz_int 10 (k := 0) rfl) (md h2)
    exact ⟨_, bd h1 rfl⟩
  | [a, b, c], _, _ => by
    have h3 : fzs (fz 11) [.own 3] [.frz (iF a), .lst [.own 0, .own 2, .own 3], .frz (iF b), .lst (c.map fI)] = some ([iF c], [.frz (iF a), .lst [.own 0, .own 2, .own 3], .frz (iF b), .frz (iF c)]) := bd (fz_int 10 (k := 3) rfl) rfl
    have h2 : fzs (fz 11) [.own 2, .own 3] [.frz (iF a), .lst [.own 0, .own 2, .own 3], .lst (b.map fI), .lst (c.map fI)] = some ([iF b, iF c], [.frz (iF a), .lst [.own 0, .own 2, .own 3], .frz (iF b), .frz (iF c)]) := bd (fz_int 10 (k := 2) rfl) (md h3)
    have h1 : fzs (fz 11) [.own 0, .own 2, .own 3] [.lst (a.map fI), .lst [.own 0, .own 2, .own 3], .lst (b.map fI), .lst (c.map fI)] = some ([iF a, iF b, iF c], [.frz (iF a), .lst [.own 0, .own 2, .own 3], .frz (iF b), .frz (iF c)]) := bd (fz_int 10 (k := 0) rfl) (md h2)
    exact ⟨_, bd h1 rfl⟩
  | [a, b, c, d], _, _ => by
    have h4 : fzs (fz 11) [.own 4] [.frz (iF a), .lst [.own 0, .own 2, .own 3, .own 4], .frz (iF b), .frz (iF c), .lst (d.map fI)] = some ([iF d], [.frz (iF a), .lst [.own 0, .own 2, .own 3, .own 4], .frz (iF b), .frz (iF c), .frz (iF d)]) := bd (fz_int 10 (k := 4) rfl) rfl
    have h3 : fzs (fz 11) [.own 3, .own 4] [.frz (iF a), .lst [.own 0, .own 2, .own 3, .own 4], .frz (iF b), .lst (c.map fI), .lst (d.map fI)] = some ([iF c, iF d], [.frz (iF a), .lst [.own 0, .own 2, .own 3, .own 4], .frz (iF b), .frz (iF c), .frz (iF d)]) := bd (fz_int 10 (k := 3) rfl) (md h4)
    have h2 : fzs (fz 11) [.own 2, .own 3, .own 4] [.frz (iF a), .lst [.own 0, .own 2, .own 3, .own 4], .lst (b.map fI), .lst (c.map fI), .lst (d.map fI)] = some ([iF b, iF c, iF d], [.frz (iF a), .lst [.own 0, .own 2, .own 3, .own 4], .frz (iF b), .frz (iF c), .frz (iF d)]) := bd (fz_int 10 (k := 2) rfl) (md h3)
    have h1 : fzs (fz 11) [.own 0, .own 2, .own 3, .own 4] [.lst (a.map fI), .lst [.own 0, .own 2, .own 3, .own 4], .lst (b.map fI), .lst (c.map fI), .lst (d.map fI)] = some ([iF a, iF b, iF c, iF d], [.frz (iF a), .lst [.own 0, .own 2, .own 3, .own 4], .frz (iF b), .frz (iF c), .frz (iF d)]) := bd (fz_int 10 (k := 0) rfl) (md h2)
    exact ⟨_, bd h1 rfl⟩
theorem c_klev (n : Nat) (key : List Int) (hz : zeros key ≤ 3) (hl : key.length ≤ 20000) (H : Hp) : callFn (ev T (n + 16)) f_key_levels [.f (iF key)] H = some (.f (.lst ((splitZ [] key).map iF)), H) := by
  have hlim : lim = 100000 := rfl
  obtain ⟨o, h⟩ := z_loop (n + 1) key key [] [] none (by rw [List.length_nil]; omega) (by rw [List.length_nil]; omega)
  rw [List.nil_append, List.nil_append] at h
  obtain ⟨H', hf⟩ := fz_hK (splitZ [] key) (by rw [splitZ_len]; omega) (by rw [splitZ_len]; omega)
  refine Fp (n := n + 15) rfl rfl (fs := [iF key]) rfl (ρ := [("key", .f (iF key))]) rfl (d := .own 1) (H2 := hK (splitZ [] key)) ⟨rZ key o, ?_⟩ hf
  show Sts (n + 15) scZ _ [] (fnT 57).2.1 _ _ _
  refine Sts.cons (ρ' := rZ key none) (H' := hK [[]]) (by kernel_rfl) (Sts.cons (ρ' := rZ key o) (H' := hK (splitZ [] key)) (Sfor (ds := key.map fI) (H1 := hK [[]]) (by kernel_rfl) ?_ h) (Sts.ret (by cases o <;> kernel_rfl)))
  refine (it_nm (fs := key.map .int) (by kernel_rfl) (by first | exact lmap (by assumption) | (rw [List.length_map]; omega)) (by decide)).trans ?_
  rw [List.map_map]; rfl
end Mine

end
noncomputable section
set_option Elab.async false
set_option maxRecDepth 100000
set_option linter.unusedVariables false
set_option maxHeartbeats 1000000
/-! merged keys -/
open PySem PySem.W
namespace Mine
theorem c_merged0 (n : Nat) (H : Hp) : callFn (ev T (n + 20)) f_merged_keys [.f (.lst [])] H = some (.f (.lst []), H) := by kernel_rfl
noncomputable def mergeL : List (List Int) → List (List Int) → List (List Int)
  | a :: A, b :: B => (a ++ [1] ++ b) :: mergeL A B
  | _, _ => []
noncomputable abbrev lF (A : List (List Int)) : F := .lst (A.map iF)
noncomputable abbrev scG : Sc := (fnT 58).2.2.names
noncomputable def gFor : Expr × Expr × List Stmt := forPart ((fnT 58).2.1.getD 2 default)
noncomputable def gIn : Expr × Expr × List Stmt := forPart (gFor.2.2.getD 1 default)
section
variable (Aq Bq : List (List Int)) (k0 : F)
noncomputable def bG : Rho := [("found", .own 0), ("lots", .f (.lst [lF Aq, lF Bq])), ("keys", .f k0)]
noncomputable def rG (o : Option Nat) : Rho := match o with
  | none => bG Aq Bq k0
  | some i => ("lot", .f (lF Bq)) :: ("at", fI 1) :: ("number", fI i) :: bG Aq Bq k0
noncomputable def rG1 (i : Nat) (o : Option Nat) : Rho := match o with
  | none => ("number", fI i) :: bG Aq Bq k0
  | some _ => ("number", fI i) :: ("lot", .f (lF Bq)) :: ("at", fI 1) :: bG Aq Bq k0
noncomputable def rG2 (i : Nat) : Rho := ("lot", .f (lF Aq)) :: ("at", fI 0) :: ("number", fI i) :: bG Aq Bq k0
theorem g_ext (n i : Nat) (L : List (List Int)) (l : List Int) (ρ : Rho) (acc : List Int) (hl : L[i]? = some l) (hL : L.length ≤ 10) (ha : acc.length ≤ 20000) (hl2 : l.length ≤ 20000) (h1 : var T scG ρ "lot" = some (.f (lF L))) (h2 : var T scG ρ "number" = some (fI i)) (h3 : var T scG ρ "found" = some (.own 0)) :
    St1 (n + 16) scG ρ [.lst (acc.map fI)] (gIn.2.2.getD 1 default) .next ρ [.lst ((acc ++ l).map fI)] := by
  have hlim : lim = 100000 := rfl
  have hi := (List.getElem?_eq_some_iff.mp hl).1
  have : Sts (n + 16) scG ρ [.lst (acc.map fI)] (gIn.2.2.drop 1) .next ρ [.lst ((acc ++ l).map fI)] := by
    refine Sts.cons (ρ' := ρ) (H' := [.lst ((acc ++ l).map fI)]) ?_ Sts.nil
    rw [List.map_append, show l.map fI = (l.map F.int).map D.f by rw [List.map_map]; rfl]
    exact St1.extend (k := 0) (ds := acc.map fI) (fs := l.map F.int) (d := .f (iF l)) h3 (by rfl) (V.of (X.ifT (B.cmp (V.nm (d := fI i) h2 (by decide)) (V.of (X.len (m := L.length) (by kernel_rfl) (V.nm h1 (by decide)) (ds := (L.map iF).map .f) (by rfl) (by rw [List.length_map, List.length_map]) (by first | exact le_lim (by assumption) | omega) (by rfl)) (by rfl)) (ltB true (by simpa using hi)) (by rfl)) (X.idx (a := .f (lF L)) (b := fI i) (V.nm h1 (by decide)) (X.nm h2 (by decide)) (getI_at (l := (L.map iF).map .f) (by rfl) (by rw [List.getElem?_map, List.getElem?_map, hl]; rfl) (by rw [List.length_map, List.length_map]; omega)) (by rfl))) (by rfl)) (by rfl) (by first | exact lmap (by assumption) | (rw [List.length_map]; omega)) (by first | exact lmap (by assumption) | (rw [List.length_map]; omega)) (by decide) (by rfl) (by rfl)
  have e : Sts (n + 16) scG ρ [.lst (acc.map fI)] [gIn.2.2.getD 1 default] .next ρ [.lst ((acc ++ l).map fI)] := this
  unfold Sts stepSt at e
  obtain ⟨⟨fl, ρ2, H2⟩, h, k⟩ := Option.bind_eq_some_iff.mp e
  cases fl <;> first | (cases k; exact h) | cases k
theorem g_body (n i : Nat) (o : Option Nat) (acc a b : List Int) (hA : Aq[i]? = some a) (hB : Bq[i]? = some b) (lA : Aq.length ≤ 10) (lB : Bq.length ≤ 10) (hl : acc.length + a.length + b.length ≤ 15000) :
    (ev T (n + 18)).st scG gFor.2.2 (rG1 Aq Bq k0 i o) [.lst (acc.map fI)] = some (.next, rG Aq Bq k0 (some i), [.lst ((acc ++ (if i = 0 then [] else [0]) ++ (a ++ [1] ++ b)).map fI)]) := by
  have hlim : lim = 100000 := rfl
  show Sts (n + 17) scG (rG1 Aq Bq k0 i o) _ gFor.2.2 _ _ _
  generalize hz : acc ++ (if i = 0 then [] else [0]) = acc1
  have hz1 : acc1.length ≤ acc.length + 1 := by rw [← hz, List.length_append]; split <;> simp
  have s0 : St1 (n + 17) scG (rG1 Aq Bq k0 i o) [.lst (acc.map fI)] (gFor.2.2.getD 0 default) .next (rG1 Aq Bq k0 i o) [.lst (acc1.map fI)] := by
    have : Sts (n + 17) scG (rG1 Aq Bq k0 i o) [.lst (acc.map fI)] [gFor.2.2.getD 0 default] .next (rG1 Aq Bq k0 i o) [.lst (acc1.map fI)] := by
      rw [← hz]
      by_cases h : i = 0
      · subst h
        rw [if_pos rfl, List.append_nil]
        exact Sts.cons (ρ' := rG1 Aq Bq k0 0 o) (H' := [.lst (acc.map fI)]) (by cases o <;> kernel_rfl) Sts.nil
      · rw [if_neg h, List.map_append]
        refine Sts.cons (ρ' := rG1 Aq Bq k0 i o) (H' := [.lst (acc.map fI ++ [fI 0])]) (St1.ifT (B.cmp (a := fI i) (b := fI ((0 : Nat) : Int)) (by cases o <;> kernel_rfl) (by kernel_rfl) (gtB true (by simp; omega)) (by rfl)) ?_) Sts.nil
        show Sts (n + 16) scG _ _ _ _ _ _
        exact Sts.cons (H' := [.lst (acc.map fI ++ [fI 0])]) (St1.append (k := 0) (ds := acc.map fI) (d := fI 0) (by cases o <;> kernel_rfl) (by rfl) X.int (by first | exact lmap (by assumption) | (rw [List.length_map]; omega)) (by decide) (by rfl) (by rfl)) Sts.nil
    unfold Sts stepSt at this
    obtain ⟨⟨fl, ρ2, H2⟩, h, k⟩ := Option.bind_eq_some_iff.mp this
    cases fl <;> first | (cases k; exact h) | cases k
  refine Sts.cons s0 (Sts.cons (ρ' := rG Aq Bq k0 (some i)) (H' := [.lst ((acc1 ++ (a ++ [1] ++ b)).map fI)]) (Sfor (ds := [.f (.tup [.int 0, lF Aq]), .f (.tup [.int 1, lF Bq])]) (H1 := [.lst (acc1.map fI)]) (by kernel_rfl) (by cases o <;> kernel_rfl) (FC (ρ1 := rG2 Aq Bq k0 i) (ρ2 := rG2 Aq Bq k0 i) (H2 := [.lst ((acc1 ++ a).map fI)]) (by cases o <;> kernel_rfl) ?_ (FC (ρ1 := rG Aq Bq k0 (some i)) (ρ2 := rG Aq Bq k0 (some i)) (H2 := [.lst ((acc1 ++ (a ++ [1] ++ b)).map fI)]) (by kernel_rfl) ?_ FN))) Sts.nil)
  · show Sts (n + 16) scG (rG2 Aq Bq k0 i) _ gIn.2.2 _ _ _
    exact Sts.cons (ρ' := rG2 Aq Bq k0 i) (H' := [.lst (acc1.map fI)]) (by kernel_rfl) (Sts.cons (g_ext n i Aq a (rG2 Aq Bq k0 i) acc1 hA lA (by first | exact le_lim (by assumption) | omega) (by first | exact le_lim (by assumption) | omega) (by kernel_rfl) (by kernel_rfl) (by kernel_rfl)) Sts.nil)
  · show Sts (n + 16) scG (rG Aq Bq k0 (some i)) _ gIn.2.2 _ _ _
    have e := g_ext n i Bq b (rG Aq Bq k0 (some i)) (acc1 ++ a ++ [1]) hB lB (by rw [List.length_append, List.length_append, List.length_singleton]; omega) (by first | exact le_lim (by assumption) | omega) (by kernel_rfl) (by kernel_rfl) (by kernel_rfl)
    rw [show acc1 ++ (a ++ [1] ++ b) = acc1 ++ a ++ [1] ++ b by simp]
    refine Sts.cons (ρ' := rG Aq Bq k0 (some i)) (H' := [.lst ((acc1 ++ a ++ [1]).map fI)]) (St1.ifT ?_ ?_) ?_
    · kernel_rfl
    rotate_left
    · exact Sts.cons e Sts.nil
    show Sts (n + 15) scG _ _ _ _ _ _
    rw [List.map_append (l₂ := [1])]
    exact Sts.cons (H' := [.lst ((acc1 ++ a).map fI ++ [fI 1])]) (St1.append (k := 0) (ds := (acc1 ++ a).map fI) (d := fI 1) (by kernel_rfl) (by rfl) X.int (by rw [List.length_map, List.length_append]; omega) (by decide) (by rfl) (by rfl)) Sts.nil
end
end Mine

end
noncomputable section
set_option Elab.async false
set_option maxRecDepth 100000
set_option linter.unusedVariables false
/-! merged keys, done -/
open PySem PySem.W
namespace Mine
theorem mergeL_len : ∀ (X Y : List (List Int)), X.length = Y.length → (mergeL X Y).length = X.length
  | [], [], _ => rfl
  | x :: X, y :: Y, h => by
    show (mergeL X Y).length + 1 = X.length + 1
    rw [mergeL_len X Y (by simpa using h)]
  | [], _ :: _, h => by cases h
  | _ :: _, [], h => by cases h
/-- one turn's part -/
noncomputable def gTurn (i : Nat) (x : List Int) : List Int := (if i = 0 then [] else [0]) ++ x
noncomputable def gFrom : Nat → List (List Int) → List Int
  | _, [] => []
  | i, x :: r => gTurn i x ++ gFrom (i + 1) r
theorem gFrom_succ : ∀ (l : List (List Int)) (i : Nat), gFrom (i + 1) l = l.flatMap (0 :: ·)
  | [], _ => rfl
  | x :: r, i => by
    show gTurn (i + 1) x ++ gFrom (i + 1 + 1) r = _
    rw [gFrom_succ r, List.flatMap_cons]; rfl
theorem gFrom_key (l : List (List Int)) : gFrom 0 l = keyOf l := by
  cases l with
  | nil => rfl
  | cons x r => show gTurn 0 x ++ gFrom 1 r = _; rw [gFrom_succ]; rfl
theorem g_loop (n : Nat) (k0 : F) (X Y : List (List Int)) (hX : X.length ≤ 4) (hXY : X.length = Y.length) (hb : ∀ x ∈ X, x.length ≤ 1300) (hb' : ∀ y ∈ Y, y.length ≤ 1300) : ∀ (m i : Nat) (o : Option Nat) (acc : List Int), i + m = X.length → acc.length ≤ i * 1400 * 2 →
    ∃ o', forL (ev T (n + 18)) scG gFor.1 gFor.2.2 ((List.range' i m).map fun j : Nat => fI j) (rG X Y k0 o) [.lst (acc.map fI)] = some (.next, rG X Y k0 o', [.lst ((acc ++ gFrom i (mergeL (X.drop i) (Y.drop i))).map fI)]) := by
  intro m
  induction m with
  | zero =>
    intro i o acc hi ha
    refine ⟨o, ?_⟩
    rw [List.drop_of_length_le (by first | exact le_lim (by assumption) | omega), List.drop_of_length_le (l := Y) (by first | exact le_lim (by assumption) | omega), show gFrom i (mergeL [] []) = [] from rfl, List.append_nil]; rfl
  | succ m ih =>
    intro i o acc hi ha
    have h1 : i < X.length := by omega
    have h2 : i < Y.length := by omega
    have b1 := hb _ (List.getElem_mem h1)
    have b2 := hb' _ (List.getElem_mem h2)
    obtain ⟨o', h⟩ := ih (i + 1) (some i) (acc ++ (if i = 0 then [] else [0]) ++ (X[i] ++ [1] ++ Y[i])) (by first | exact le_lim (by assumption) | omega) (by
      have : (if i = 0 then ([] : List Int) else [0]).length ≤ 1 := by split <;> simp
      simp only [List.length_append, List.length_singleton]
      omega)
    rw [List.range'_succ, List.map_cons, List.drop_eq_getElem_cons h1, List.drop_eq_getElem_cons h2]
    refine ⟨o', FC (ρ1 := rG1 X Y k0 i o) (by cases o <;> kernel_rfl) (g_body X Y k0 n i o acc X[i] Y[i] (List.getElem?_eq_getElem h1) (List.getElem?_eq_getElem h2) (by first | exact le_lim (by assumption) | omega) (by first | exact le_lim (by assumption) | omega) ?_) (h.trans ?_)⟩
    · have : i ≤ 3 := by omega
      omega
    · show some (Fl.next, _, [O.lst _]) = some (Fl.next, _, [O.lst _])
      rw [show gFrom i (mergeL (X[i] :: X.drop (i + 1)) (Y[i] :: Y.drop (i + 1))) = gTurn i (X[i] ++ [1] ++ Y[i]) ++ gFrom (i + 1) (mergeL (X.drop (i + 1)) (Y.drop (i + 1))) from rfl]
      unfold gTurn
      simp only [List.append_assoc]
end Mine

end
noncomputable section
set_option Elab.async false
set_option maxRecDepth 100000
set_option linter.unusedVariables false
/-! merged keys of two -/
open PySem PySem.W
namespace Mine
theorem splitZ_mem : ∀ (key l : List Int), ∀ x ∈ splitZ l key, x.length ≤ l.length + key.length
  | [], l, x, h => by
    have : x = l := by simpa [splitZ] using h
    subst this; exact Nat.le_add_right _ _
  | w :: r, l, x, h => by
    rw [splitZ] at h
    rw [List.length_cons]
    split at h
    · rcases List.mem_cons.mp h with rfl | h
      · omega
      · have := splitZ_mem r [] x h; rw [List.length_nil] at this; omega
    · have := splitZ_mem r (l ++ [w]) x h; rw [List.length_append, List.length_singleton] at this; omega
theorem c_merged (n : Nat) (k1 k2 : List Int) (hz : zeros k1 = zeros k2) (h3 : zeros k1 ≤ 3) (hl1 : k1.length ≤ 1300) (hl2 : k2.length ≤ 1300) (H : Hp) : callFn (ev T (n + 24)) f_merged_keys [.f (.lst [iF k1, iF k2])] H = some (.f (iF (keyOf (mergeL (splitZ [] k1) (splitZ [] k2)))), H) := by
  have hlim : lim = 100000 := rfl
  have e1 := splitZ_len k1 []
  have e2 := splitZ_len k2 []
  have m1 := splitZ_mem k1 []
  have m2 := splitZ_mem k2 []
  have c1 : ∀ {m H}, callFn (ev T (m + 16)) f_key_levels [.f (iF k1)] H = some (.f (lF (splitZ [] k1)), H) := fun {m H} => c_klev m k1 h3 (by first | exact le_lim (by assumption) | omega) H
  have c2 : ∀ {m H}, callFn (ev T (m + 16)) f_key_levels [.f (iF k2)] H = some (.f (lF (splitZ [] k2)), H) := fun {m H} => c_klev m k2 (by first | exact le_lim (by assumption) | omega) (by first | exact le_lim (by assumption) | omega) H
  generalize splitZ [] k1 = Ls at *
  generalize splitZ [] k2 = Ms at *
  obtain ⟨o, h⟩ := g_loop (n + 5) (.lst [iF k1, iF k2]) Ls Ms (by first | exact le_lim (by assumption) | omega) (by first | exact le_lim (by assumption) | omega) (fun x m => by have := m1 x m; rw [List.length_nil] at this; omega) (fun x m => by have := m2 x m; rw [List.length_nil] at this; omega) Ls.length 0 none [] (by first | exact le_lim (by assumption) | omega) (Nat.zero_le _)
  rw [List.drop_zero, List.drop_zero, List.nil_append, gFrom_key] at h
  refine Fp (n := n + 23) rfl rfl (fs := [.lst [iF k1, iF k2]]) rfl (ρ := [("keys", .f (.lst [iF k1, iF k2]))]) rfl (d := .own 0) (H2 := [.lst ((keyOf (mergeL Ls Ms)).map fI)]) ⟨rG Ls Ms (.lst [iF k1, iF k2]) o, ?_⟩ (fz_int 11 rfl)
  show Sts (n + 23) scG _ [] (fnT 58).2.1 _ _ _
  refine Sts.cons (ρ' := [("lots", .f (.lst [lF Ls, lF Ms])), ("keys", .f (.lst [iF k1, iF k2]))]) (H' := []) (St1.asgC (d := .f (.lst [lF Ls, lF Ms])) (Ecomp (ds := [.f (iF k1), .f (iF k2)]) (fs := [lF Ls, lF Ms]) (H1 := []) (by kernel_rfl) (by kernel_rfl) (Nat.le_of_ble_eq_true rfl) ?_) (by kernel_rfl) (by rfl)) ?_
  · exact comp_map (α := F × F) (fun x => .f x.1) (fun x => x.2) (fun x => x = (iF k1, lF Ls) ∨ x = (iF k2, lF Ms)) (fun x hx => by
      rcases hx with rfl | rfl
      · exact ⟨[("key", .f (iF k1))], .f (lF Ls), by kernel_rfl, X2.s (Ecall (f := f_key_levels) (ad := 352) (ds := [.f (iF k1)]) (H1 := []) (by kernel_rfl) (by kernel_rfl) (by kernel_rfl) (c1 (m := n + 6))), rfl⟩
      · exact ⟨[("key", .f (iF k2))], .f (lF Ms), by kernel_rfl, X2.s (Ecall (f := f_key_levels) (ad := 352) (ds := [.f (iF k2)]) (H1 := []) (by kernel_rfl) (by kernel_rfl) (by kernel_rfl) (c2 (m := n + 6))), rfl⟩) [(iF k1, lF Ls), (iF k2, lF Ms)] (by simp)
  refine Sts.cons (ρ' := rG Ls Ms (.lst [iF k1, iF k2]) none) (H' := [.lst []]) (by kernel_rfl) ?_
  refine Sts.cons (ρ' := rG Ls Ms (.lst [iF k1, iF k2]) o) (H' := [.lst ((keyOf (mergeL Ls Ms)).map fI)]) (Sfor (ds := (List.range' 0 Ls.length).map fun j : Nat => fI j) (H1 := [.lst []]) (by kernel_rfl) ?_ h) (Sts.ret (by cases o <;> kernel_rfl))
  show (exV (ev T (n + 23)) scG _ (rG Ls Ms (.lst [iF k1, iF k2]) none) [.lst []]).bind (fun x => itemsOf x.1 x.2) = _
  have lens : callB "max" [.f (.lst [.int Ls.length, .int Ms.length])] [.lst []] = some (fI Ls.length) := by
    show some (D.f (.int (max (Ls.length : Int) (Ms.length : Int)))) = _
    rw [show (Ms.length : Int) = Ls.length by omega, Int.max_self]
  refine bd (a := (.f (.rng 0 Ls.length), [.lst []])) (V.of (X2.s (EcallT (bn := "range") (ds := [fI Ls.length]) (H1 := [.lst []]) (by kernel_rfl) (xp (by rfl) (V.of (X.ifT (by kernel_rfl) (X2.s (EcallB (bn := "max") (ds := [.f (.lst [.int Ls.length, .int Ms.length])]) (H1 := [.lst []]) (by kernel_rfl) (xp (by rfl) (V.of (X.comp (Ecomp (ds := [.f (lF Ls), .f (lF Ms)]) (fs := [.int Ls.length, .int Ms.length]) (H1 := [.lst []]) (by kernel_rfl) (by kernel_rfl) (Nat.le_of_ble_eq_true rfl) ?_)) (by rfl)) xvN) lens))) (by rfl)) xvN) rfl)) (by rfl)) ?_
  · exact comp_map (α := List (List Int)) (fun x => .f (lF x)) (fun x => .int x.length) (fun x => x.length ≤ 100) (fun x hx => ⟨[("lot", .f (lF x))], fI x.length, by kernel_rfl, X.len (by kernel_rfl) (V.nm (d := .f (lF x)) (by kernel_rfl) (by decide)) (ds := (x.map iF).map .f) (by rfl) (by rw [List.length_map, List.length_map]) (by first | exact le_lim (by assumption) | omega) (by rfl), rfl⟩) [Ls, Ms] (by simp; omega)
  · refine (rngI (by first | exact le_lim (by assumption) | omega)).trans ?_
    unfold rngL
    rw [show ((Ls.length : Int) - 0).toNat = Ls.length by omega, List.range_eq_range']
    congr 2
    exact List.map_congr_left fun (j : Nat) _ => by show D.f (.int (0 + (j : Int))) = fI j; rw [Int.zero_add]
end Mine

end
noncomputable section
set_option Elab.async false
set_option maxRecDepth 100000
set_option linter.unusedVariables false
/-! the law's own keys -/
open PySem PySem.W
namespace Mine
/-- a key is its levels -/
theorem splitZ_app : ∀ (a l r : List Int), (∀ x ∈ a, x ≠ 0) → splitZ l (a ++ r) = splitZ (l ++ a) r
  | [], l, r, _ => by rw [List.nil_append, List.append_nil]
  | x :: a, l, r, h => by
    rw [List.cons_append, splitZ, if_neg (h x (.head _)), splitZ_app a (l ++ [x]) r fun y m => h y (.tail _ m), List.append_assoc]; rfl
theorem splitZ_flat : ∀ (ls : List (List Int)) (l : List Int), (∀ x ∈ ls, ∀ y ∈ x, y ≠ 0) → splitZ l (ls.flatMap (0 :: ·)) = l :: ls
  | [], l, _ => rfl
  | x :: ls, l, h => by
    rw [List.flatMap_cons, List.cons_append, splitZ, if_pos rfl, splitZ_app x [] _ (h x (.head _)), List.nil_append, splitZ_flat ls x fun y m => h y (.tail _ m)]
theorem splitZ_key (l : List Int) (ls : List (List Int)) (h : ∀ x ∈ l :: ls, ∀ y ∈ x, y ≠ 0) : splitZ [] (keyOf (l :: ls)) = l :: ls := by
  unfold keyOf
  rw [splitZ_app l [] _ (h l (.head _)), List.nil_append, splitZ_flat ls l fun x m => h x (.tail _ m)]
theorem zeros_app (a b : List Int) : zeros (a ++ b) = zeros a + zeros b := by unfold zeros; rw [List.filter_append, List.length_append]
theorem zeros_pos : ∀ (a : List Int), (∀ x ∈ a, x ≠ 0) → zeros a = 0
  | [], _ => rfl
  | x :: a, h => by
    have := zeros_pos a fun y m => h y (.tail _ m)
    unfold zeros at this ⊢
    rw [List.filter_cons, if_neg (by simpa using h x (.head _))]; exact this
theorem zeros_flat : ∀ (ls : List (List Int)), (∀ x ∈ ls, ∀ y ∈ x, y ≠ 0) → zeros (ls.flatMap (0 :: ·)) = ls.length
  | [], _ => rfl
  | x :: ls, h => by
    rw [List.flatMap_cons, zeros_app, zeros_flat ls fun y m => h y (.tail _ m), List.length_cons]
    have := zeros_pos x (h x (.head _))
    have e : zeros (0 :: x) = zeros x + 1 := by unfold zeros; simp
    omega
theorem zeros_key (l : List Int) (ls : List (List Int)) (h : ∀ x ∈ l :: ls, ∀ y ∈ x, y ≠ 0) : zeros (keyOf (l :: ls)) = ls.length := by
  unfold keyOf
  rw [zeros_app, zeros_flat ls fun x m => h x (.tail _ m), zeros_pos l (h l (.head _))]; omega
theorem lev_pos (cf : Str) (es : List Row) (hp : ∀ p ∈ es, OkR p) (k : Int) : ∀ y ∈ lev cf es k, 0 < y := by
  intro y hy
  unfold lev at hy
  split at hy
  · obtain ⟨p, hm, rfl⟩ := List.mem_map.mp hy
    exact (hp p hm).1
  · split at hy
    · obtain ⟨p, hm, rfl⟩ := List.mem_map.mp hy
      decide
    · split at hy
      · obtain ⟨p, hm, rfl⟩ := List.mem_map.mp hy
        unfold csT
        split <;> split <;> decide
      · obtain ⟨p, hm, rfl⟩ := List.mem_map.mp hy
        have h2 := (hp p hm).2
        unfold thT
        split
        · rcases h2 with h2 | h2 <;> omega
        · split <;> split <;> rcases h2 with h2 | h2 <;> omega
theorem lvls_pos (s : Int) (cf : Str) (cl : Bool) (es : List Row) (hp : ∀ p ∈ es, OkR p) : ∀ l ∈ lvls s cf cl es, ∀ y ∈ l, 0 < y := by
  intro l hl
  rw [lvls_mks] at hl
  obtain ⟨k, _, rfl⟩ := List.mem_map.mp hl
  exact lev_pos cf es hp k
end Mine

end
noncomputable section
set_option Elab.async false
set_option maxRecDepth 100000
set_option linter.unusedVariables false
/-! the order of lists -/
open PySem PySem.W
namespace Mine
theorem cmpL_nn : cmpL [] [] = 0 := rfl
theorem cmpL_nc (y : Int) (b : List Int) : cmpL [] (y :: b) = -1 := by unfold cmpL cmpF; simp
theorem cmpL_cn (x : Int) (a : List Int) : cmpL (x :: a) [] = 1 := by unfold cmpL cmpF; simp
theorem cmpL_cc (x y : Int) (a b : List Int) : cmpL (x :: a) (y :: b) = if x = y then cmpL a b else if x < y then -1 else 1 := by
  unfold cmpL
  rw [cmpF]
  by_cases h : x = y
  · rw [if_pos h, if_pos h, List.length_cons, List.length_cons]
    cases cmpF a b <;> simp
  · rw [if_neg h, if_neg h]
noncomputable def okOp (op : CmpOp) (c : Int) : Bool := match op with
  | .Lt => decide (c < 0)
  | .LtE => decide (c ≤ 0)
  | .Gt => decide (0 < c)
  | _ => false
theorem ord_ints (n : Nat) (op : CmpOp) (hop : op = .Lt ∨ op = .LtE ∨ op = .Gt) : ∀ (a b : List Int), ords op (eqN (n + 1)) (ordN (n + 1) op) (a.map F.int) (b.map F.int) = some (okOp op (cmpL a b))
  | [], [] => by rcases hop with rfl | rfl | rfl <;> rfl
  | [], y :: b => by rw [cmpL_nc]; rcases hop with rfl | rfl | rfl <;> rfl
  | x :: a, [] => by rw [cmpL_cn]; rcases hop with rfl | rfl | rfl <;> rfl
  | x :: a, y :: b => by
    rw [cmpL_cc, List.map_cons, List.map_cons]
    unfold ords
    have he : eqN (n + 1) (.int x) (.int y) = some (x == y) := rfl
    rw [he]
    by_cases h : x = y
    · subst h
      rw [if_pos rfl]
      show cond (x == x) _ _ = _
      rw [beq_self_eq_true]
      exact ord_ints n op hop a b
    · rw [if_neg h]
      have hb : (x == y) = false := beq_eq_false_iff_ne.mpr h
      rw [hb]
      show ordN (n + 1) op (.int x) (.int y) = _
      have : ordN (n + 1) op (.int x) (.int y) = ordI op x y := rfl
      rw [this]
      rcases hop with rfl | rfl | rfl
      · show some (decide (x < y)) = _
        by_cases q : x < y <;> simp [q, okOp]
      · show some (decide (x ≤ y)) = _
        by_cases q : x < y <;> simp [q, okOp] <;> omega
      · show some (decide (y < x)) = _
        by_cases q : x < y <;> simp [q, okOp] <;> omega
theorem cmpL_zero : ∀ (a b : List Int), cmpL a b = 0 ↔ a = b
  | [], [] => by simp [cmpL_nn]
  | [], y :: b => by simp [cmpL_nc]
  | x :: a, [] => by simp [cmpL_cn]
  | x :: a, y :: b => by
    rw [cmpL_cc]
    by_cases h : x = y
    · subst h; rw [if_pos rfl, cmpL_zero a b]; simp
    · rw [if_neg h]
      constructor
      · intro q; split at q <;> cases q
      · intro q; injection q with q1 _; exact absurd q1 h
theorem eqs_ints (n : Nat) : ∀ (a b : List Int), a.length = b.length → (eqs (eqN n) (a.map F.int) (b.map F.int)).map (fun l => l.all id) = some (decide (a = b))
  | [], [], _ => rfl
  | [], _ :: _, h => by cases h
  | _ :: _, [], h => by cases h
  | x :: a, y :: b, h => by
    have ih := eqs_ints n a b (by simpa using h)
    obtain ⟨l, h1, h2⟩ := Option.map_eq_some_iff.mp ih
    have he : eqN n (.int x) (.int y) = some (x == y) := by cases n <;> rfl
    rw [List.map_cons, List.map_cons]
    unfold eqs
    rw [he, h1]
    show some ((x == y) && l.all id) = _
    rw [h2]
    congr 1
    by_cases q : x = y <;> simp [q]
theorem eq_ints (n : Nat) (a b : List Int) : eqN (n + 1) (iF a) (iF b) = some (decide (a = b)) := by
  show (if (a.map F.int).length = (b.map F.int).length then (eqs (eqN n) (a.map F.int) (b.map F.int)).map (fun l => l.all id) else some false) = _
  rw [List.length_map, List.length_map]
  by_cases h : a.length = b.length
  · rw [if_pos h]; exact eqs_ints n a b h
  · rw [if_neg h, decide_eq_false fun q => h (by rw [q])]
theorem ordW_lists (op : CmpOp) (hop : op = .Lt ∨ op = .LtE ∨ op = .Gt) : ∀ (A B : List (List Int)), A.length = B.length → ords op (eqN 2) (ordN 2 op) (A.map iF) (B.map iF) = some (okOp op (cmpW A B))
  | [], [], _ => by rcases hop with rfl | rfl | rfl <;> rfl
  | [], _ :: _, h => by cases h
  | _ :: _, [], h => by cases h
  | a :: A, b :: B, h => by
    rw [List.map_cons, List.map_cons]
    unfold ords cmpW
    rw [eq_ints 1 a b]
    by_cases q : a = b
    · rw [if_pos ((cmpL_zero a b).mpr q), decide_eq_true q]
      exact ordW_lists op hop A B (by simpa using h)
    · rw [if_neg fun z => q ((cmpL_zero a b).mp z), decide_eq_false q]
      show ordN 2 op (iF a) (iF b) = _
      have : ordN 2 op (iF a) (iF b) = ords op (eqN 1) (ordN 1 op) (a.map F.int) (b.map F.int) := by rcases hop with rfl | rfl | rfl <;> rfl
      rw [this]
      exact ord_ints 0 op hop a b
end Mine

end
noncomputable section
set_option Elab.async false
set_option maxRecDepth 100000
set_option linter.unusedVariables false
/-! the law's sign -/
open PySem PySem.W
namespace Mine
theorem cmpL_v : ∀ (a b : List Int), cmpL a b = -1 ∨ cmpL a b = 0 ∨ cmpL a b = 1
  | [], [] => .inr (.inl rfl)
  | [], y :: b => .inl (cmpL_nc y b)
  | x :: a, [] => .inr (.inr (cmpL_cn x a))
  | x :: a, y :: b => by
    rw [cmpL_cc]
    split
    · exact cmpL_v a b
    · split
      · exact .inl rfl
      · exact .inr (.inr rfl)
theorem cmpW_v : ∀ (A B : List (List Int)), cmpW A B = -1 ∨ cmpW A B = 0 ∨ cmpW A B = 1
  | [], _ => .inr (.inl (by cases ‹List (List Int)› <;> rfl))
  | _ :: _, [] => .inr (.inl rfl)
  | a :: A, b :: B => by
    unfold cmpW
    split
    · exact cmpW_v A B
    · exact cmpL_v a b
theorem ltW (op : CmpOp) (hop : op = .Lt ∨ op = .LtE ∨ op = .Gt) (P Q : List (List Int)) (h : P.length = Q.length) (H : Hp) : cmp op (.f (lF P)) (.f (lF Q)) H = some (okOp op (cmpW P Q)) := by
  rcases hop with rfl | rfl | rfl
  · exact ordW_lists .Lt (.inl rfl) P Q h
  · exact ordW_lists .LtE (.inr (.inl rfl)) P Q h
  · exact ordW_lists .Gt (.inr (.inr rfl)) P Q h
theorem c_sign (n : Nat) (P Q : List (List Int)) (h : P.length = Q.length) (H : Hp) : callFn (ev T (n + 8)) f_law_sign [.f (lF P), .f (lF Q)] H = some (fI (cmpW P Q), H) := by
  refine Fp (n := n + 7) rfl rfl (fs := [lF P, lF Q]) rfl (ρ := [("near", .f (lF P)), ("far", .f (lF Q))]) rfl (d := fI (cmpW P Q)) (H2 := []) ⟨[("near", .f (lF P)), ("far", .f (lF Q))], ?_⟩ rfl
  show Sts (n + 7) (fnT 92).2.2.names _ [] (fnT 92).2.1 _ _ _
  have l := ltW .Lt (.inl rfl) P Q h []
  have g := ltW .Gt (.inr (.inr rfl)) P Q h []
  rcases cmpW_v P Q with e | e | e <;> rw [e] at l g ⊢
  · exact Sts.ret (Sreturn (xV (by rfl) (X.ifT (B.cmp (V.nm (by kernel_rfl) (by decide)) (V.nm (by kernel_rfl) (by decide)) l (by rfl)) (by kernel_rfl))))
  · exact Sts.ret (Sreturn (xV (by rfl) (X.ifF (B.cmp (V.nm (by kernel_rfl) (by decide)) (V.nm (by kernel_rfl) (by decide)) l (by rfl)) (X.ifF (B.cmp (V.nm (by kernel_rfl) (by decide)) (V.nm (by kernel_rfl) (by decide)) g (by rfl)) (by kernel_rfl)))))
  · exact Sts.ret (Sreturn (xV (by rfl) (X.ifF (B.cmp (V.nm (by kernel_rfl) (by decide)) (V.nm (by kernel_rfl) (by decide)) l (by rfl)) (X.ifT (B.cmp (V.nm (by kernel_rfl) (by decide)) (V.nm (by kernel_rfl) (by decide)) g (by rfl)) (by kernel_rfl)))))
end Mine

end
noncomputable section
set_option Elab.async false
set_option maxRecDepth 100000
set_option linter.unusedVariables false
/-! the law's tokens -/
open PySem PySem.W
namespace Mine
noncomputable abbrev Tk := Int ⊕ List Int
noncomputable def items : Nat → List Tk → List D
  | _, [] => []
  | k, .inl c :: r => fI c :: items k r
  | k, .inr _ :: r => .own k :: items (k + 1) r
noncomputable def inners : List Tk → List O
  | [] => []
  | .inl _ :: r => inners r
  | .inr ds :: r => .lst (ds.map fI) :: inners r
noncomputable def hT (a : List Tk) : Hp := O.lst (items 1 a) :: inners a
theorem items_len : ∀ (a : List Tk) (k : Nat), (items k a).length = a.length
  | [], _ => rfl
  | .inl c :: r, k => congrArg (· + 1) (items_len r k)
  | .inr ds :: r, k => congrArg (· + 1) (items_len r (k + 1))
theorem items_inl (c : Int) : ∀ (a : List Tk) (k : Nat), items k (a ++ [.inl c]) = items k a ++ [fI c]
  | [], _ => rfl
  | .inl x :: r, k => congrArg (fI x :: ·) (items_inl c r k)
  | .inr ds :: r, k => congrArg (D.own k :: ·) (items_inl c r (k + 1))
theorem items_inr (ds : List Int) : ∀ (a : List Tk) (k : Nat), items k (a ++ [.inr ds]) = items k a ++ [.own (k + (inners a).length)]
  | [], _ => rfl
  | .inl x :: r, k => congrArg (fI x :: ·) (items_inr ds r k)
  | .inr es :: r, k => by
    have := items_inr ds r (k + 1)
    show D.own k :: items (k + 1) (r ++ [.inr ds]) = D.own k :: (items (k + 1) r ++ [.own (k + ((inners r).length + 1))])
    rw [this, show k + ((inners r).length + 1) = k + 1 + (inners r).length by omega]
theorem inners_app : ∀ (a b : List Tk), inners (a ++ b) = inners a ++ inners b
  | [], _ => rfl
  | .inl x :: r, b => inners_app r b
  | .inr ds :: r, b => congrArg (O.lst (ds.map fI) :: ·) (inners_app r b)
noncomputable def put1 (nu : Bool) (a : List Tk) (c : Int) : List Tk :=
  if (nu && isD c) = true then (match a.getLast? with | some (.inr ds) => a.dropLast ++ [.inr (ds ++ [c - 48])] | _ => a ++ [.inr [c - 48]]) else a ++ [.inl c]
noncomputable def joinT (a l : List Tk) : List Tk := match a.getLast?, l with
  | some (.inr ds), .inr ds' :: t => a.dropLast ++ .inr (ds ++ ds') :: t
  | _, _ => a ++ l
theorem shape (a : List Tk) : a = [] ∨ (∃ p c, a = p ++ [.inl c]) ∨ ∃ p ds, a = p ++ [.inr ds] := by
  rcases List.eq_nil_or_concat a with h | ⟨p, x, h⟩
  · exact .inl h
  · rw [List.concat_eq_append] at h
    cases x with
    | inl c => exact .inr (.inl ⟨p, c, h⟩)
    | inr ds => exact .inr (.inr ⟨p, ds, h⟩)
theorem fold_tok : ∀ (ts : List Int) (a : List Tk), ts.foldl (put1 true) a = joinT a (tok ts)
  | [], a => by
    show a = joinT a []
    unfold joinT
    rcases shape a with rfl | ⟨p, c, rfl⟩ | ⟨p, ds, rfl⟩ <;> simp
  | c :: r, a => by
    rw [List.foldl_cons, fold_tok r]
    conv => rhs; unfold tok
    cases hD : isD c with
    | false =>
      rw [if_neg Bool.false_ne_true]
      have : put1 true a c = a ++ [.inl c] := by unfold put1; rw [hD]; rfl
      rw [this]
      unfold joinT
      rcases shape a with rfl | ⟨p, c, rfl⟩ | ⟨p, ds, rfl⟩ <;> simp
    | true =>
      rw [if_pos rfl]
      unfold put1
      rw [hD]
      rcases shape a with rfl | ⟨p, c, rfl⟩ | ⟨p, ds, rfl⟩ <;> (unfold joinT; rcases tok r with _ | ⟨_ | _, _⟩ <;> simp)
theorem fold_plain : ∀ (ts : List Int) (a : List Tk), ts.foldl (put1 false) a = a ++ ts.map .inl
  | [], a => by simp
  | c :: r, a => by
    rw [List.foldl_cons, fold_plain r]
    unfold put1; simp
noncomputable def tokB (nu : Bool) (ts : List Int) : List Tk := match nu with
  | true => tok ts
  | false => ts.map .inl
theorem fold_B (nu : Bool) (ts : List Int) : ts.foldl (put1 nu) [] = tokB nu ts := by
  cases nu with
  | true => rw [fold_tok]; unfold joinT; rfl
  | false => rw [fold_plain]; rfl
noncomputable def tokF : Tk → F
  | .inl c => .int c
  | .inr ds => iF ds
theorem fz_items : ∀ (a : List Tk) (k : Nat) (H : Hp), (∀ j o, (inners a)[j]? = some o → H[k + j]? = some o) → ∃ H', fzs (fz 11) (items k a) H = some (a.map tokF, H') ∧ ∀ i, i < k → H'[i]? = H[i]?
  | [], k, H, _ => ⟨H, rfl, fun _ _ => rfl⟩
  | .inl c :: r, k, H, h => by
    obtain ⟨H', h1, h2⟩ := fz_items r k H h
    exact ⟨H', bd (a := (.int c, H)) rfl (md h1), h2⟩
  | .inr ds :: r, k, H, h => by
    have h0 : H[k]? = some (.lst (ds.map fI)) := h 0 _ rfl
    obtain ⟨H', h1, h2⟩ := fz_items r (k + 1) (H.set k (.frz (iF ds))) fun j o e => by
      rw [List.getElem?_set, if_neg (by first | exact le_lim (by assumption) | omega), show k + 1 + j = k + (j + 1) by omega]
      exact h (j + 1) o e
    refine ⟨H', bd (fz_int 10 h0) (md h1), fun i hi => ?_⟩
    rw [h2 i (by first | exact le_lim (by assumption) | omega), List.getElem?_set, if_neg (by first | exact le_lim (by assumption) | omega)]
theorem fz_hT (a : List Tk) : ∃ H', fz fuelFz (.own 0) (hT a) = some (.lst (a.map tokF), H') := by
  obtain ⟨H', h1, h2⟩ := fz_items a 1 (hT a) fun j o e => by
    unfold hT
    rw [Nat.add_comm, List.getElem?_cons_succ]; exact e
  have h3 : H'[0]? = some (.lst (items 1 a)) := h2 0 (by decide)
  refine ⟨H'.set 0 (.frz (.lst (a.map tokF))), ?_⟩
  show (fzs (fz 11) (items 1 a) (hT a)).bind (fun x => fzPut 0 (.lst x.1) x.2) = _
  refine bd h1 ?_
  unfold fzPut
  rw [h3]; rfl
section
variable {n : Nat} {sc : Sc} {ρ : Rho} {H H1 : Hp} {d : D} {o e : Expr} {k : Nat} {ds : List D}
/-- o.append(e), e making anew -/
theorem St1.mApp {p2 p3 p4 : Pos} (ho : isCN o = false) (h1 : X n sc ρ H o (.own k)) (h2 : (match H[k]? with | some (.lst _) => true | _ => false) = true) (he : (ev T n).ex sc e ρ H = some (d, H1)) (hk : H1[k]? = some (.lst ds)) (hl : ds.length ≤ lim) (hs : isStar e = false) (h0 : (!(p2.endLine == p3.line) || !decide (1 < 30)) = false) :
    St1 (n + 1) sc ρ H (.Expr (.Call (.Attribute o "append" p2) [e] [] p3) p4) .next ρ (H1.set k (.lst (ds ++ [d]))) := by
  obtain ⟨l0, h00⟩ : ∃ l0, H[k]? = some (.lst l0) := by
    revert h2
    cases H[k]? with
    | none => intro h; cases h
    | some o => cases o <;> intro h <;> first | exact ⟨_, rfl⟩ | cases h
  refine Sexpr rfl (X2.s (EmethL ho h0 h1 ?_ ?_ (ds := [d]) (H2 := H1) ?_ (meth_append hk hl)))
  · show H[k]?.bind oIns = none
    rw [h00]; rfl
  · unfold recvOk
    rw [ownL_at h00]; rfl
  · rw [if_pos rfl]; exact xsC hs he xsN
end
noncomputable abbrev scT : Sc := (fnT 88).2.2.names
noncomputable def tFor : Expr × Expr × List Stmt := forPart ((fnT 88).2.1.getD 1 default)
noncomputable def tIf : Expr × List Stmt × List Stmt := ifPart (tFor.2.2.getD 0 default)
noncomputable def tIf2 : Expr × List Stmt × List Stmt := ifPart (tIf.2.1.getD 0 default)
noncomputable def rT (ts : List Int) (nu : Bool) : Option Int → Rho
  | none => [("found", .own 0), ("text", .f (iF ts)), ("is_numeric", fB nu)]
  | some c => [("code", fI c), ("found", .own 0), ("text", .f (iF ts)), ("is_numeric", fB nu)]
theorem t_test (n : Nat) (ts : List Int) (H : Hp) : ∀ c ∈ SG, B (n + 11) scT (rT ts true (some c)) H tIf.1 (isD c) :=
  sg8 ⟨by kernel_rfl, by kernel_rfl, by kernel_rfl, by kernel_rfl, by kernel_rfl, by kernel_rfl, by kernel_rfl, by kernel_rfl⟩
theorem t_test' (n : Nat) (ts : List Int) (H : Hp) (nu : Bool) (c : Int) (hc : c ∈ SG) : B (n + 11) scT (rT ts nu (some c)) H tIf.1 (nu && isD c) := by
  cases nu with
  | true => exact t_test n ts H c hc
  | false => exact B.andF (by kernel_rfl)
noncomputable def okA (K : Nat) (a : List Tk) : Prop := a.length ≤ K ∧ ∀ ds, .inr ds ∈ a → ds.length ≤ K
theorem okA_put {K : Nat} {a : List Tk} {nu : Bool} {c : Int} (h : okA K a) : okA (K + 1) (put1 nu a c) := by
  obtain ⟨h1, h2⟩ := h
  unfold put1
  split
  · rcases shape a with rfl | ⟨p, c, rfl⟩ | ⟨p, ds, rfl⟩
    · exact ⟨by simp, fun ds m => by simp at m; subst m; simp⟩
    · simp only [List.getLast?_append, List.getLast?_singleton, Option.some_or]
      refine ⟨by rw [List.length_append, List.length_singleton]; omega, fun ds m => ?_⟩
      rcases List.mem_append.mp m with m | m
      · have := h2 ds m; omega
      · simp at m; subst m; simp
    · simp only [List.getLast?_append, List.getLast?_singleton, Option.some_or, List.dropLast_concat]
      rw [List.length_append, List.length_singleton] at h1
      refine ⟨by rw [List.length_append, List.length_singleton]; omega, fun es m => ?_⟩
      rcases List.mem_append.mp m with m | m
      · have := h2 es (List.mem_append_left _ m); omega
      · have := h2 ds (by simp)
        simp at m; subst m; rw [List.length_append, List.length_singleton]; omega
  · refine ⟨by rw [List.length_append, List.length_singleton]; omega, fun ds m => ?_⟩
    rcases List.mem_append.mp m with m | m
    · have := h2 ds m; omega
    · simp at m
theorem t_ne {a : List Tk} (h : a ≠ []) : cmp .NotEq (.own 0) (.f (.lst [])) (hT a) = some true := by
  refine (neNil (l := items 1 a) rfl).trans ?_
  have hl := items_len a 1
  show some (!(items 1 a).isEmpty) = _
  cases hi : items 1 a with
  | nil => rw [hi] at hl; exact absurd (List.eq_nil_of_length_eq_zero hl.symm) h
  | cons x r => rfl
theorem t_at {m : Nat} {ts : List Int} {nu : Bool} {c : Int} {a : List Tk} {d : D} (hl : (items 1 a).length ≤ lim) (hd : (items 1 a).getLast? = some d) {p1 p2 p3 p4 : Pos} {k} : X (m + 5) scT (rT ts nu (some c)) (hT a) (.Subscript (.Name "found" p1) (.UnaryOp .USub (.Constant (.int 1) k p2) p3) p4) d :=
  X.idx (a := .own 0) (b := fI (-1)) (V.nm (by kernel_rfl) (by decide)) (by kernel_rfl) (getI_last (l := items 1 a) rfl hd hl) (by rfl)
theorem t_inst (n : Nat) (ts : List Int) (nu t : Bool) (c : Int) (a : List Tk) (d : D) (h : a ≠ []) (hl : (items 1 a).length ≤ lim) (hd : (items 1 a).getLast? = some d) (hi : callB "isinstance" [d, .f (.glob (.type "list"))] (hT a) = some (fB t)) :
    B (n + 11) scT (rT ts nu (some c)) (hT a) tIf2.1 t :=
  B.andT (B.cmp (a := .own 0) (b := .f (.lst [])) (V.nm (by kernel_rfl) (by decide)) (by kernel_rfl) (t_ne h) (by rfl)) (B.val (X.s (EcallB (bn := "isinstance") (ds := [d, .f (.glob (.type "list"))]) (H1 := hT a) (by kernel_rfl) (xp (by rfl) (V.of (t_at hl hd) (by rfl)) (xp (by rfl) (by kernel_rfl) xvN)) hi)) rfl (by rfl))
theorem t_body (n : Nat) (ts : List Int) (nu : Bool) (c : Int) (hc : c ∈ SG) (a : List Tk) (K : Nat) (hK : okA K a) (hl : K ≤ 1000) :
    (ev T (n + 13)).st scT tFor.2.2 (rT ts nu (some c)) (hT a) = some (.next, rT ts nu (some c), hT (put1 nu a c)) := by
  have hlim : lim = 100000 := rfl
  have hil : (items 1 a).length ≤ lim := by rw [items_len]; have := hK.1; omega
  have tt := t_test' (n + 1) ts (hT a) nu c hc
  show Sts (n + 12) scT (rT ts nu (some c)) (hT a) tFor.2.2 _ _ _
  refine Sts.cons (ρ' := rT ts nu (some c)) (H' := hT (put1 nu a c)) ?_ Sts.nil
  cases hq : (nu && isD c) with
  | false =>
    rw [hq] at tt
    have e : put1 nu a c = a ++ [.inl c] := by unfold put1; rw [hq]; rfl
    refine St1.ifF tt ?_
    show Sts (n + 11) scT (rT ts nu (some c)) (hT a) _ _ _ _
    have e2 : hT (put1 nu a c) = (hT a).set 0 (.lst (items 1 a ++ [fI c])) := by rw [e]; unfold hT; rw [items_inl, inners_app]; simp [inners]
    rw [e2]
    exact Sts.cons (H' := (hT a).set 0 (.lst (items 1 a ++ [fI c]))) (St1.append (k := 0) (ds := items 1 a) (d := fI c) (by kernel_rfl) (by rfl) (by kernel_rfl) hil (by decide) (by rfl) (by rfl)) Sts.nil
  | true =>
    rw [hq] at tt
    refine St1.ifT tt ?_
    show Sts (n + 11) scT (rT ts nu (some c)) (hT a) _ _ _ _
    refine Sts.cons (ρ' := rT ts nu (some c)) (H' := hT (put1 nu a c)) ?_ Sts.nil
    have arg : ∀ {m : Nat} {H : Hp} {p1 p2 p3 p4 : Pos} {k}, (ev T (m + 3)).ex scT (.List [.BinOp (.Name "code" p1) .Sub (.Constant (.int 48) k p2) p3] p4) (rT ts nu (some c)) H = some (.own H.length, H ++ [.lst [fI (c - 48)]]) := fun {m H p1 p2 p3 p4 k} =>
      X2.s (Elist (H1 := H) (ds := [fI (c - 48)]) (by rfl) (xsC (H1 := H) (by rfl) (X.bin (a := fI c) (b := fI 48) (V.nm (by kernel_rfl) (by decide)) (by rfl) (by rfl)) xsN))
    rcases shape a with rfl | ⟨p, x, rfl⟩ | ⟨p, ds, rfl⟩
    · have e : put1 nu [] c = [.inr [c - 48]] := by unfold put1; rw [hq]; rfl
      rw [e]
      refine St1.ifF (by kernel_rfl) ?_
      show Sts (n + 10) scT (rT ts nu (some c)) (hT []) _ _ _ _
      exact Sts.cons (H' := hT [.inr [c - 48]]) (by kernel_rfl) Sts.nil
    · have e : put1 nu (p ++ [.inl x]) c = p ++ [.inl x] ++ [.inr [c - 48]] := by unfold put1; rw [hq]; simp
      have hd : (items 1 (p ++ [.inl x])).getLast? = some (fI x) := by rw [items_inl]; simp
      refine St1.ifF (t_inst n ts nu false c _ (fI x) (by simp) hil hd rfl) ?_
      show Sts (n + 10) scT (rT ts nu (some c)) (hT (p ++ [.inl x])) _ _ _ _
      have hH : hT (put1 nu (p ++ [Sum.inl x]) c) = (hT (p ++ [Sum.inl x]) ++ [O.lst [fI (c - 48)]]).set 0 (.lst (items 1 (p ++ [Sum.inl x]) ++ [D.own (hT (p ++ [Sum.inl x])).length])) := by
        rw [e]
        unfold hT
        rw [items_inr, inners_app _ [Sum.inr [c - 48]]]
        show _ = O.lst _ :: (inners _ ++ _)
        rw [show (1 : Nat) + (inners (p ++ [.inl x])).length = (O.lst (items 1 (p ++ [.inl x])) :: inners (p ++ [.inl x])).length by rw [List.length_cons]; omega]; rfl
      rw [hH]
      exact Sts.cons (St1.mApp (k := 0) (ds := items 1 (p ++ [.inl x])) (by rfl) (X.nm (by kernel_rfl) (by decide)) (by rfl) arg (by rfl) hil (by rfl) (by rfl)) Sts.nil
    · have e : put1 nu (p ++ [.inr ds]) c = p ++ [.inr (ds ++ [c - 48])] := by unfold put1; rw [hq]; simp
      have hd : (items 1 (p ++ [.inr ds])).getLast? = some (.own (1 + (inners p).length)) := by rw [items_inr]; simp
      have hk : (hT (p ++ [.inr ds]))[1 + (inners p).length]? = some (.lst (ds.map fI)) := by
        unfold hT
        rw [Nat.add_comm, List.getElem?_cons_succ, inners_app]; simp [inners]
      have t1 := t_inst n ts nu true c _ (.own (1 + (inners p).length)) (by simp) hil hd (by
        show Option.map (fun b => fB b) (isiList (.own (1 + (inners p).length)) (hT (p ++ [Sum.inr ds]))) = _
        unfold isiList
        rw [show asLst (.own (1 + (inners p).length)) (hT (p ++ [Sum.inr ds])) = some (ds.map fI) from bd hk rfl]
        rfl)
      refine St1.ifT t1 ?_
      show Sts (n + 10) scT (rT ts nu (some c)) (hT (p ++ [.inr ds])) _ _ _ _
      have hH : hT (put1 nu (p ++ [Sum.inr ds]) c) = (hT (p ++ [Sum.inr ds])).set (1 + (inners p).length) (.lst (ds.map fI ++ [fI (c - 48)])) := by
        rw [e]
        unfold hT
        rw [items_inr, items_inr, inners_app, inners_app, Nat.add_comm 1, List.set_cons_succ, List.set_append_right _ _ (Nat.le_refl _), Nat.sub_self]
        show _ :: (_ ++ [O.lst ((ds ++ [c - 48]).map fI)]) = _
        rw [List.map_append]; rfl
      rw [hH]
      exact Sts.cons (St1.mApp (k := 1 + (inners p).length) (ds := ds.map fI) (by rfl) (t_at hil hd) (by rw [hk]) (X.bin (a := fI c) (b := fI 48) (V.nm (by kernel_rfl) (by decide)) (by rfl) (by rfl)) hk (by rw [List.length_map]; have := hK.2 ds (by simp); omega) (by rfl) (by rfl)) Sts.nil
theorem t_loop (n : Nat) (ts : List Int) (nu : Bool) : ∀ (cs : List Int) (a : List Tk) (K : Nat) (o : Option Int), (∀ c ∈ cs, c ∈ SG) → okA K a → K + cs.length ≤ 1000 →
    ∃ o', forL (ev T (n + 13)) scT tFor.1 tFor.2.2 (cs.map fI) (rT ts nu o) (hT a) = some (.next, rT ts nu o', hT (cs.foldl (put1 nu) a)) ∧ okA (K + cs.length) (cs.foldl (put1 nu) a)
  | [], a, K, o, _, hK, _ => ⟨o, rfl, hK⟩
  | c :: cs, a, K, o, hs, hK, hl => by
    rw [List.length_cons] at hl
    obtain ⟨o', h, h'⟩ := t_loop n ts nu cs (put1 nu a c) (K + 1) (some c) (fun x m => hs x (.tail _ m)) (okA_put hK) (by first | exact le_lim (by assumption) | omega)
    refine ⟨o', FC (ρ1 := rT ts nu (some c)) (by cases o <;> kernel_rfl) (t_body n ts nu c (hs c (.head _)) a K hK (by first | exact le_lim (by assumption) | omega)) h, ?_⟩
    rw [List.length_cons, show K + (cs.length + 1) = K + 1 + cs.length by omega]
    exact h'
theorem tokB_ok (nu : Bool) {ts : List Int} (hs : ∀ c ∈ ts, c ∈ SG) (hl : ts.length ≤ 100) : okA 100 (tokB nu ts) := by
  obtain ⟨_, _, h1, h2⟩ := t_loop 0 ts nu ts [] 0 none hs ⟨Nat.le_refl _, fun _ m => by cases m⟩ (by first | exact le_lim (by assumption) | omega)
  rw [fold_B] at *
  exact ⟨by omega, fun ds m => by have := h2 ds m; omega⟩
theorem c_tokens (n : Nat) (ts : List Int) (nu : Bool) (hs : ∀ c ∈ ts, c ∈ SG) (hl : ts.length ≤ 100) (H : Hp) : callFn (ev T (n + 15)) f_law_tokens [.f (iF ts), fB nu] H = some (.f (.lst ((tokB nu ts).map tokF)), H) := by
  have hlim : lim = 100000 := rfl
  obtain ⟨o, h, _⟩ := t_loop (n + 1) ts nu ts [] 0 none hs ⟨Nat.le_refl _, fun _ m => by cases m⟩ (by first | exact le_lim (by assumption) | omega)
  rw [fold_B] at h
  obtain ⟨H', hf⟩ := fz_hT (tokB nu ts)
  refine Fp (n := n + 14) rfl rfl (fs := [iF ts, .bool nu]) rfl (ρ := [("text", .f (iF ts)), ("is_numeric", fB nu)]) rfl (d := .own 0) (H2 := hT (tokB nu ts)) ⟨rT ts nu o, ?_⟩ hf
  show Sts (n + 14) scT _ [] (fnT 88).2.1 _ _ _
  refine Sts.cons (ρ' := rT ts nu none) (H' := hT []) (by kernel_rfl) (Sts.cons (ρ' := rT ts nu o) (H' := hT (tokB nu ts)) (Sfor (ds := ts.map fI) (H1 := hT []) (by kernel_rfl) ?_ h) (Sts.ret (by cases o <;> kernel_rfl)))
  refine (it_nm (fs := ts.map .int) (by kernel_rfl) (by first | exact lmap (by assumption) | (rw [List.length_map]; omega)) (by decide)).trans ?_
  rw [List.map_map]; rfl
end Mine

end
noncomputable section
set_option Elab.async false
set_option maxRecDepth 100000
set_option linter.unusedVariables false
/-! the law's weights -/
open PySem PySem.W
namespace Mine
noncomputable def prF (p : Row) : F := .tup [.int p.1, .int p.2]
section
variable {n : Nat} {R : Rec} {sc : Sc} {ρ : Rho} {H H1 H2 H3 : Hp} {d : D} {e : Expr} {r es : List Expr} {v : F} {vs fs : List F} {p : Pos}
noncomputable abbrev goF (R : Rec) (sc : Sc) (ρ : Rho) (es : List Expr) (H : Hp) (fs : List F) (H' : Hp) : Prop := mapE (fun e H => exF R sc e ρ H) es H = some (fs.map .f, H')
theorem goN : goF R sc ρ [] H [] H := rfl
theorem goC (hs : isStar e = false) (h : R.ex sc e ρ H = some (d, H1)) (hf : fz fuelFz d H1 = some (v, H2)) (h2 : goF R sc ρ r H2 vs H3) : goF R sc ρ (e :: r) H (v :: vs) H3 := mapC hs (bd h (md hf)) h2
theorem toFs_f (fs : List F) : toFs (fs.map .f) = some fs := by
  induction fs with
  | nil => rfl
  | cons x r ih => exact bd (a := x) rfl (md ih)
theorem V.lst (h0 : decide (es.length ≤ lim) = true) (h : goF (ev T n) sc ρ es H fs H) : V n sc ρ H (.List es p) (.f (.lst fs)) := by
  show (if es.length ≤ lim then (mapE (fun e H => exF (ev T n) sc e ρ H) es H).bind (fun x => (toFs x.1).map fun l => (D.f (.lst l), x.2)) else none) = _
  rw [if_pos (of_decide_eq_true h0)]
  exact bd h (md (toFs_f fs))
theorem it_lst (he : iters R sc e ρ H = (exV R sc e ρ H).bind fun x => itemsOf x.1 x.2) (h : exV R sc e ρ H = some (.f (.lst fs), H1)) (hl : fs.length ≤ lim) : iters R sc e ρ H = some (fs.map .f, H1) := by
  rw [he]
  exact bd h (md (f := fun x : List F × Hp => (dF x.1, x.2)) (lstOf_f hl))
theorem addL {a b : List F} (h : a.length + b.length ≤ lim) : bin .Add (.f (.lst a)) (.f (.lst b)) H = some (.f (.lst (a ++ b))) := addC h
end
noncomputable abbrev scR : Sc := (fnT 89).2.2.names
noncomputable def wrFor : Expr × Expr × List Stmt := forPart ((fnT 89).2.1.getD 1 default)
noncomputable def wrIf : Expr × List Stmt × List Stmt := ifPart (wrFor.2.2.getD 0 default)
noncomputable def wrWh : Expr × List Stmt := whPart (wrIf.2.1.getD 0 default)
noncomputable def rR (ts : List Int) (nu : Bool) : Option F → Rho
  | none => [("found", .own 0), ("text", .f (iF ts)), ("is_numeric", fB nu)]
  | some t => [("one", .f t), ("found", .own 0), ("text", .f (iF ts)), ("is_numeric", fB nu)]
theorem r_while (n : Nat) (ts : List Int) (nu : Bool) (H : Hp) : ∀ (l : List Int) (fuel : Nat), l.length ≤ 1000 → l.length < fuel →
    whileL (ev T (n + 12)) scR wrWh.1 wrWh.2 fuel (rR ts nu (some (iF l))) H = some (.next, rR ts nu (some (iF (strip l))), H)
  | _, 0, _, h => absurd h (Nat.not_lt_zero _)
  | [], fuel + 1, _, _ => by
    refine WF ?_
    show B (n + 12) scR (rR ts nu (some (iF []))) H wrWh.1 false
    exact B.andF (by kernel_rfl)
  | x :: r, fuel + 1, hl, hf => by
    have hlim : lim = 100000 := rfl
    rw [List.length_cons] at hl hf
    have cond : B (n + 12) scR (rR ts nu (some (iF (x :: r)))) H wrWh.1 (x == 0) :=
      B.andT (by kernel_rfl) (B.cmp (a := fI x) (b := fI 0) (V.of (X.idx (a := .f (iF (x :: r))) (b := fI 0) (V.nm (by kernel_rfl) (by decide)) (by kernel_rfl) (getI_at (i := 0) (iF_lst (x :: r) H) rfl (by rw [List.length_map, List.length_cons]; omega)) (by rfl)) (by rfl)) (by kernel_rfl) (by rfl) (by rfl))
    by_cases hx : x = 0
    · rw [show (x == 0) = true by simp [hx]] at cond
      rw [show strip (x :: r) = strip r by conv => lhs; unfold strip
                                           rw [if_pos hx]]
      refine WT cond (ρ2 := rR ts nu (some (iF r))) (H2 := H) ?_ (r_while n ts nu H r fuel (by first | exact le_lim (by assumption) | omega) (by first | exact le_lim (by assumption) | omega))
      show Sts (n + 11) scR (rR ts nu (some (iF (x :: r)))) H wrWh.2 _ _ _
      refine Sts.cons (ρ' := rR ts nu (some (iF r))) (H' := H) (St1.asg (d := .f (iF r)) ?_ (by kernel_rfl) (by rfl) (by rfl)) Sts.nil
      have st : sliceL (some 1) none ((x :: r).map F.int) = r.map F.int := slice_tail _ _
      rw [show iF r = .lst (sliceL (some 1) none ((x :: r).map F.int)) by rw [st]]
      exact X.slice (a := .f (iF (x :: r))) (x := fI 1) (y := .f .none) (V.nm (by kernel_rfl) (by decide)) (by kernel_rfl) rfl rfl (by rw [List.length_map, List.length_cons]; omega) rfl rfl
    · rw [show (x == 0) = false by simp [hx]] at cond
      rw [show strip (x :: r) = x :: r by unfold strip; rw [if_neg hx]]
      exact WF cond
theorem sg_row : ∀ c ∈ SG, if c < 60 then fst1 c = 100 + c - 48 ∧ thd1 c = 2 else if 96 < c then fst1 c = 200 + c - 97 ∧ thd1 c = 2 else fst1 c = 200 + c - 65 ∧ thd1 c = 8 :=
  sg8 (by decide)
theorem r_body (n : Nat) (ts : List Int) (nu : Bool) (acc : List F) (ha : acc.length ≤ 1000) (t : Tk) (ht : match t with | .inl c => c ∈ SG | .inr ds => ds.length ≤ 100) :
    ∃ t', (ev T (n + 14)).st scR wrFor.2.2 (rR ts nu (some (tokF t))) [.lst (acc.map .f)] = some (.next, rR ts nu (some t'), [.lst ((acc ++ (tokP t).map prF).map .f)]) := by
  have hlim : lim = 100000 := rfl
  have al : (acc.map D.f).length ≤ lim := by rw [List.length_map]; omega
  cases t with
  | inl c =>
    have hr := sg_row c ht
    refine ⟨.int c, ?_⟩
    show Sts (n + 13) scR (rR ts nu (some (.int c))) [.lst (acc.map .f)] wrFor.2.2 _ _ _
    refine Sts.cons (ρ' := rR ts nu (some (.int c))) (H' := [.lst ((acc ++ (tokP (.inl c)).map prF).map .f)]) (St1.ifF (by kernel_rfl) ?_) Sts.nil
    show Sts (n + 12) scR (rR ts nu (some (.int c))) [.lst (acc.map .f)] _ _ _ _
    rw [List.map_append]
    refine Sts.cons (ρ' := rR ts nu (some (.int c))) (H' := [.lst (acc.map .f ++ ((tokP (.inl c)).map prF).map .f)]) ?_ Sts.nil
    by_cases h : c < 60
    · rw [if_pos h] at hr
      refine St1.ifT (B.cmp (a := fI c) (b := fI 60) (by kernel_rfl) (by kernel_rfl) (by rw [ltI, decide_eq_true h]) (by rfl)) ?_
      show Sts (n + 11) scR (rR ts nu (some (.int c))) [.lst (acc.map .f)] _ _ _ _
      show Sts (n + 11) scR (rR ts nu (some (.int c))) [.lst (acc.map .f)] _ _ _ [.lst (acc.map .f ++ [.f (.tup [.int (fst1 c), .int (thd1 c)])])]
      rw [hr.1, hr.2]
      exact Sts.cons (H' := [.lst (acc.map .f ++ [.f (.tup [.int (100 + c - 48), .int 2])])]) (St1.append (k := 0) (ds := acc.map .f) (by kernel_rfl) (by rfl) (by kernel_rfl) al (by decide) (by rfl) (by rfl)) Sts.nil
    · rw [if_neg h] at hr
      refine St1.ifF (B.cmp (a := fI c) (b := fI 60) (by kernel_rfl) (by kernel_rfl) (by rw [ltI, decide_eq_false h]) (by rfl)) ?_
      show Sts (n + 11) scR (rR ts nu (some (.int c))) [.lst (acc.map .f)] _ _ _ [.lst (acc.map .f ++ [.f (.tup [.int (fst1 c), .int (thd1 c)])])]
      by_cases h2 : 96 < c
      · rw [if_pos h2] at hr
        rw [hr.1, hr.2]
        exact Sts.cons (H' := [.lst (acc.map .f ++ [.f (.tup [.int (200 + c - 97), .int 2])])]) (St1.append (k := 0) (ds := acc.map .f) (by kernel_rfl) (by rfl) (X.ifT (B.cmp (a := fI c) (b := fI 96) (by kernel_rfl) (by kernel_rfl) (by show some (decide (96 < c)) = _; rw [decide_eq_true h2]) (by rfl)) (by kernel_rfl)) al (by decide) (by rfl) (by rfl)) Sts.nil
      · rw [if_neg h2] at hr
        rw [hr.1, hr.2]
        exact Sts.cons (H' := [.lst (acc.map .f ++ [.f (.tup [.int (200 + c - 65), .int 8])])]) (St1.append (k := 0) (ds := acc.map .f) (by kernel_rfl) (by rfl) (X.ifF (B.cmp (a := fI c) (b := fI 96) (by kernel_rfl) (by kernel_rfl) (by show some (decide (96 < c)) = _; rw [decide_eq_false h2]) (by rfl)) (by kernel_rfl)) al (by decide) (by rfl) (by rfl)) Sts.nil
  | inr ds =>
    have hds : ds.length ≤ 100 := ht
    have hsl := strip_len ds
    refine ⟨iF (strip ds), ?_⟩
    show Sts (n + 13) scR (rR ts nu (some (iF ds))) [.lst (acc.map .f)] wrFor.2.2 _ _ _
    refine Sts.cons (ρ' := rR ts nu (some (iF (strip ds)))) (H' := [.lst ((acc ++ (tokP (.inr ds)).map prF).map .f)]) (St1.ifT (by kernel_rfl) ?_) Sts.nil
    show Sts (n + 12) scR (rR ts nu (some (iF ds))) [.lst (acc.map .f)] _ _ _ _
    have w := r_while n ts nu [.lst (acc.map .f)] ds 200 (by first | exact le_lim (by assumption) | omega) (by first | exact le_lim (by assumption) | omega)
    show Sts (n + 12) scR (rR ts nu (some (iF ds))) [.lst (acc.map .f)] _ _ _ [.lst ((acc ++ (figP (strip ds)).map prF).map .f)]
    generalize strip ds = l at *
    refine Sts.cons (St1.wh w) (Sts.cons (H' := [.lst ((acc ++ (figP l).map prF).map .f)]) ?_ Sts.nil)
    rw [List.map_append]
    refine St1.extend (k := 0) (ds := acc.map .f) (fs := (figP l).map prF) (d := .f (.lst ((figP l).map prF))) (by kernel_rfl) (by rfl) (V.of ?_ (by rfl)) rfl al (by unfold figP; simp; omega) (by decide) (by rfl) (by rfl)
    rw [show (figP l).map prF = [prF (100, 2), prF (2 + (l.length : Int), 2)] ++ l.map fun k => prF (2 + k, 2) by unfold figP; simp]
    refine X.bin (a := .f (.lst [prF (100, 2), prF (2 + (l.length : Int), 2)])) (b := .f (.lst (l.map fun k => prF (2 + k, 2)))) ?_ ?_ (addL (by simp; omega))
    · refine V.lst (by rfl) (goC (H1 := [.lst (acc.map .f)]) (H2 := [.lst (acc.map .f)]) (d := .f (prF (100, 2))) (by rfl) (by kernel_rfl) rfl (goC (H1 := [.lst (acc.map .f)]) (H2 := [.lst (acc.map .f)]) (d := .f (prF (2 + (l.length : Int), 2))) (by rfl) ?_ rfl goN))
      exact X2.s (Etup (ds := [fI (2 + (l.length : Int)), fI 2]) (by rfl) (xsp (by rfl) (X.bin (a := fI 2) (b := fI l.length) (by kernel_rfl) (V.of (X.len (m := l.length) (by kernel_rfl) (V.nm (d := .f (iF l)) (by kernel_rfl) (by decide)) (iF_lst l _) (List.length_map ..) (by first | exact le_lim (by assumption) | omega) (by rfl)) (by rfl)) (by rfl)) (xsp (by rfl) (by kernel_rfl) xsN)))
    · refine V.of (X.comp (Ecomp (ds := (l.map F.int).map .f) (H1 := [.lst (acc.map .f)]) (by kernel_rfl) (it_nm (by kernel_rfl) (by first | exact lmap (by assumption) | (rw [List.length_map]; omega)) (by decide)) (by simp; omega) ?_)) (by rfl)
      rw [List.map_map]
      exact comp_map (fun k : Int => fI k) (fun k => prF (2 + k, 2)) (fun _ => True) (fun k _ => ⟨[("figure", fI k)], .f (prF (2 + k, 2)), by kernel_rfl, by kernel_rfl, rfl⟩) l fun _ _ => trivial
theorem r_loop (n : Nat) (ts : List Int) (nu : Bool) : ∀ (l : List Tk) (acc : List F) (o : Option F), (∀ t ∈ l, match t with | .inl c => c ∈ SG | .inr ds => ds.length ≤ 100) → acc.length + (l.map tokN).sum ≤ 1000 →
    ∃ o', forL (ev T (n + 14)) scR wrFor.1 wrFor.2.2 ((l.map tokF).map .f) (rR ts nu o) [.lst (acc.map .f)] = some (.next, rR ts nu o', [.lst ((acc ++ (l.flatMap tokP).map prF).map .f)])
  | [], acc, o, _, _ => ⟨o, by simp; rfl⟩
  | t :: l, acc, o, ht, hl => by
    rw [List.map_cons, List.sum_cons] at hl
    have hp := tokP_len t
    obtain ⟨t', h⟩ := r_body n ts nu acc (by first | exact le_lim (by assumption) | omega) t (ht t (.head _))
    obtain ⟨o', h2⟩ := r_loop n ts nu l (acc ++ (tokP t).map prF) (some t') (fun x m => ht x (.tail _ m)) (by rw [List.length_append, List.length_map]; omega)
    refine ⟨o', FC (ρ1 := rR ts nu (some (tokF t))) (by cases o <;> kernel_rfl) h (h2.trans ?_)⟩
    rw [List.flatMap_cons, List.map_append (l₁ := tokP t), List.append_assoc]
theorem tokB_rows (nu : Bool) (ts : List Int) : (tokB nu ts).flatMap tokP = rowsP nu ts := by
  cases nu with
  | true => rfl
  | false =>
    show (ts.map Sum.inl).flatMap tokP = ts.map fun c => (fst1 c, thd1 c)
    induction ts with
    | nil => rfl
    | cons c r ih => rw [List.map_cons, List.flatMap_cons, ih]; rfl
theorem tokB_sum (nu : Bool) (ts : List Int) : ((tokB nu ts).map tokN).sum ≤ 3 * ts.length := by
  cases nu with
  | true => exact tok_len ts
  | false =>
    show ((ts.map Sum.inl).map tokN).sum ≤ _
    induction ts with
    | nil => exact Nat.le_refl _
    | cons c r ih => rw [List.map_cons, List.map_cons, List.sum_cons, List.length_cons]; have : tokN (.inl c) = 1 := rfl; omega
theorem tokB_mem (nu : Bool) {ts : List Int} (h : TxOk ts) : ∀ t ∈ tokB nu ts, match t with | .inl c => c ∈ SG | .inr ds => ds.length ≤ 100 := by
  intro t m
  have h1 := tokB_ok nu h.1 h.2
  cases t with
  | inr ds => exact h1.2 ds m
  | inl c =>
    cases nu with
    | true => exact tok_ok ts h.1 _ m
    | false =>
      obtain ⟨x, hx, e⟩ := List.mem_map.mp m
      cases e; exact h.1 _ hx
theorem c_lweights (n : Nat) (ts : List Int) (nu : Bool) (h : TxOk ts) (H : Hp) : callFn (ev T (n + 18)) f_law_weights [.f (iF ts), fB nu] H = some (.f (.lst ((rowsP nu ts).map prF)), H) := by
  have hlim : lim = 100000 := rfl
  have hm := tokB_ok nu h.1 h.2
  obtain ⟨o, hr⟩ := r_loop (n + 3) ts nu (tokB nu ts) [] none (tokB_mem nu h) (by rw [List.length_nil]; have := tokB_sum nu ts; have := h.2; omega)
  rw [tokB_rows, List.nil_append] at hr
  refine Fp (n := n + 17) rfl rfl (fs := [iF ts, .bool nu]) rfl (ρ := [("text", .f (iF ts)), ("is_numeric", fB nu)]) rfl (d := .own 0) (H2 := [.lst (((rowsP nu ts).map prF).map .f)]) ⟨rR ts nu o, ?_⟩ (fz_own 11 rfl)
  show Sts (n + 17) scR _ [] (fnT 89).2.1 _ _ _
  refine Sts.cons (ρ' := rR ts nu none) (H' := [.lst []]) (by kernel_rfl) (Sts.cons (ρ' := rR ts nu o) (H' := [.lst (((rowsP nu ts).map prF).map .f)]) (Sfor (ds := ((tokB nu ts).map tokF).map .f) (H1 := [.lst []]) (by kernel_rfl) ?_ hr) (Sts.ret (by cases o <;> kernel_rfl)))
  exact it_lst (by rfl) (V.of (X2.s (Ecall (f := f_law_tokens) (ad := 681) (ds := [.f (iF ts), fB nu]) (H1 := [.lst []]) (by kernel_rfl) (by kernel_rfl) (by kernel_rfl) (c_tokens (n + 1) ts nu h.1 h.2 _))) (by rfl)) (by rw [List.length_map]; have := hm.1; omega)
end Mine

end
noncomputable section
set_option Elab.async false
set_option maxRecDepth 100000
set_option linter.unusedVariables false
/-! the law's levels -/
open PySem PySem.W
namespace Mine
noncomputable def waysF (s : Int) (cf : Str) (cl nu : Bool) : F := .tup [.int s, .str cf, .bool cl, .bool nu]
noncomputable abbrev scQ : Sc := (fnT 90).2.2.names
noncomputable def qSt (i : Nat) : Stmt := (fnT 90).2.1.getD i default
section
variable (n : Nat) (ts : List Int) (s : Int) (cf : Str) (cl nu : Bool) (es : List Row)
noncomputable def rQ : Option Int → Rho
  | none => [("levels", .own 0), ("rows", .f (.lst (es.map prF))), ("text", .f (iF ts)), ("ways", .f (waysF s cf cl nu))]
  | some g => [("great", fI g), ("levels", .own 0), ("rows", .f (.lst (es.map prF))), ("text", .f (iF ts)), ("ways", .f (waysF s cf cl nu))]
noncomputable def grT (cf : Str) : Int := if cf = "upper" then 2 else 3
noncomputable def behT (cf : Str) : Int := if cf = "" then 0 else if cf = "upper" then 2 else 8
variable (hp : ∀ p ∈ es, OkR p) (hl : es.length ≤ 900) (hcf : CfOk cf) (hs : SOk s)
include hl
theorem q_l_it {k : Nat} {ρ : Rho} {H : Hp} {p : Pos} (h : var T scQ ρ "rows" = some (.f (.lst (es.map prF)))) : iters (ev T (k + 1)) scQ (.Name "rows" p) ρ H = some (es.map fun p => .f (prF p), H) := by
  refine (it_nm (fs := es.map prF) h (by rw [List.length_map]; show es.length ≤ 100000; omega) (by decide)).trans ?_
  rw [List.map_map]; rfl
theorem q_l2T (acc : List D) (ha : acc.length ≤ 10) : Sts (n + 14) scQ (rQ ts s cf cl nu es none) [.lst acc] (ifPart (qSt 2)).2.1 .next (rQ ts s cf cl nu es none) [.lst (acc ++ [.f (iF (es.map fun _ => 32))])] := by
  have hlim : lim = 100000 := rfl
  refine Sts.cons (H' := [.lst (acc ++ [.f (iF (es.map fun _ => 32))])]) (St1.append (k := 0) (ds := acc) (by kernel_rfl) (by rfl) ?_ (by first | exact le_lim (by assumption) | omega) (by decide) (by rfl) (by rfl)) Sts.nil
  refine X.bin (a := .f (.lst [.int 32])) (b := fI es.length) (V.lst (by rfl) (by kernel_rfl)) (V.of (X.len (ds := (es.map prF).map .f) (by kernel_rfl) (V.nm (d := .f (.lst (es.map prF))) (by kernel_rfl) (by decide)) (by rfl) (by rw [List.length_map, List.length_map]) (by first | exact le_lim (by assumption) | omega) (by rfl)) (by rfl)) ?_
  refine (mulC (by first | exact le_lim (by assumption) | omega)).trans ?_
  show some (D.f (.lst (List.replicate es.length (.int 32)))) = some (D.f (.lst ((es.map fun _ => (32 : Int)).map F.int)))
  rw [List.map_const', List.map_replicate]
theorem q_l3T (hp : ∀ p ∈ es, OkR p) (hcf : CfOk cf) (acc : List D) (ha : acc.length ≤ 10) : Sts (n + 14) scQ (rQ ts s cf cl nu es none) [.lst acc] (ifPart (qSt 3)).2.1 .next (rQ ts s cf cl nu es (some (grT cf))) [.lst (acc ++ [.f (iF (es.map fun p => csT cf p.2))])] := by
  have hlim : lim = 100000 := rfl
  refine Sts.cons (ρ' := rQ ts s cf cl nu es (some (grT cf))) (H' := [.lst acc]) (by rcases hcf with rfl | rfl | rfl <;> kernel_rfl) ?_
  refine Sts.cons (H' := [.lst (acc ++ [.f (iF (es.map fun p => csT cf p.2))])]) (St1.append (k := 0) (ds := acc) (by kernel_rfl) (by rfl) (X.comp (Ecomp (ds := es.map fun p => .f (prF p)) (fs := (es.map fun p => csT cf p.2).map .int) (H1 := [.lst acc]) (by kernel_rfl) (q_l_it es hl (by kernel_rfl)) (by first | exact lmap (by assumption) | (rw [List.length_map]; omega)) ?_)) (by first | exact le_lim (by assumption) | omega) (by decide) (by rfl) (by rfl)) Sts.nil
  rw [List.map_map]
  refine comp_map (fun p : Row => .f (prF p)) (fun p => .int (csT cf p.2)) OkR (fun p hp => ⟨[("third", fI p.2), ("first", fI p.1), ("great", fI (grT cf))], fI (csT cf p.2), by kernel_rfl, ?_, rfl⟩) es hp
  obtain ⟨a, t⟩ := p
  obtain ⟨h1, rfl | rfl⟩ := hp
  · rw [show csT cf (a, (2 : Int)).2 = 5 - grT cf by unfold csT grT; split <;> rfl]; kernel_rfl
  · rw [show csT cf (a, (8 : Int)).2 = grT cf by unfold csT grT; split <;> rfl]; kernel_rfl
theorem q_l4T (hp : ∀ p ∈ es, OkR p) (hcf : CfOk cf) (g : Option Int) (acc : List D) (ha : acc.length ≤ 10) : ∃ H', Sts (n + 14) scQ (rQ ts s cf cl nu es g) [.lst acc] (ifPart (qSt 4)).2.1 .next (("behind", fI (behT cf)) :: rQ ts s cf cl nu es g) (.lst (acc ++ [.f (iF (es.map fun p => thT cf p.2))]) :: H') := by
  have hlim : lim = 100000 := rfl
  let dc : O := .dct [(.s (Str.ofString ""), fI 0), (.s (Str.ofString "upper"), fI 2), (.s (Str.ofString "lower"), fI 8)]
  refine ⟨[dc], ?_⟩
  refine Sts.cons (ρ' := ("behind", fI (behT cf)) :: rQ ts s cf cl nu es g) (H' := [.lst acc, dc]) (by rcases hcf with rfl | rfl | rfl <;> cases g <;> kernel_rfl) ?_
  refine Sts.cons (H' := [.lst (acc ++ [.f (iF (es.map fun p => thT cf p.2))]), dc]) (St1.append (k := 0) (ds := acc) (H := [.lst acc, dc]) (by cases g <;> kernel_rfl) (by rfl) (X.comp (Ecomp (ds := es.map fun p => .f (prF p)) (fs := (es.map fun p => thT cf p.2).map .int) (H1 := [.lst acc, dc]) (by cases g <;> kernel_rfl) (q_l_it es hl (by cases g <;> kernel_rfl)) (by first | exact lmap (by assumption) | (rw [List.length_map]; omega)) ?_)) (by first | exact le_lim (by assumption) | omega) (by decide) (by rfl) (by rfl)) Sts.nil
  rw [List.map_map]
  refine comp_map (fun p : Row => .f (prF p)) (fun p => .int (thT cf p.2)) OkR (fun p hp => ⟨[("third", fI p.2), ("first", fI p.1), ("behind", fI (behT cf))], fI (thT cf p.2), by cases g <;> kernel_rfl, ?_, rfl⟩) es hp
  obtain ⟨a, t⟩ := p
  obtain ⟨h1, rfl | rfl⟩ := hp <;> rcases hcf with rfl | rfl | rfl <;> kernel_rfl
end
theorem c_llevels (n : Nat) (ts : List Int) (h : TxOk ts) (s : Int) (cf : Str) (cl nu : Bool) (hcf : CfOk cf) (hs : SOk s) (H : Hp) : callFn (ev T (n + 22)) f_law_levels [.f (iF ts), .f (waysF s cf cl nu)] H = some (.f (lF (levP s cf cl nu ts)), H) := by
  have hlim : lim = 100000 := rfl
  have hp := rowsP_ok nu ts h.1
  have hl := rowsP_900 (nu := nu) h
  have cw := c_lweights (n + 1) ts nu h []
  unfold levP
  generalize rowsP nu ts = es at *
  let ρ0 : Rho := [("text", .f (iF ts)), ("ways", .f (waysF s cf cl nu))]
  have s0 : St1 (n + 21) scQ ρ0 [] (qSt 0) .next (rQ ts s cf cl nu es none) [.lst []] :=
    St1.asgT (d := .tup [.f (.lst (es.map prF)), .own 0]) (X2.s (Etup (ds := [.f (.lst (es.map prF)), .own 0]) (by rfl) (xsC (H1 := []) (by rfl) (X2.s (Ecall (f := f_law_weights) (ad := 686) (ds := [.f (iF ts), fB nu]) (H1 := []) (by kernel_rfl) (by kernel_rfl) (by kernel_rfl) cw)) (by kernel_rfl)))) (by kernel_rfl) (by kernel_rfl) (by rfl)
  have s2 : ∀ acc : List D, acc.length ≤ 10 → St1 (n + 21) scQ (rQ ts s cf cl nu es none) [.lst acc] (qSt 2) .next (rQ ts s cf cl nu es none) [.lst (acc ++ if 2 ≤ s then [.f (iF (es.map fun _ => 32))] else [])] := fun acc ha => by
    by_cases q : 2 ≤ s
    · rw [if_pos q]
      exact St1.ifT (by rcases hs with rfl | rfl | rfl; exact absurd q (by decide); kernel_rfl; kernel_rfl) (q_l2T (n + 6) ts s cf cl nu es hl acc ha)
    · rw [if_neg q, List.append_nil]
      exact St1.ifF (by rcases hs with rfl | rfl | rfl; kernel_rfl; exact absurd (by decide) q; exact absurd (by decide) q) (by rfl)
  have s3 : ∀ acc : List D, acc.length ≤ 10 → ∃ g, St1 (n + 21) scQ (rQ ts s cf cl nu es none) [.lst acc] (qSt 3) .next (rQ ts s cf cl nu es g) [.lst (acc ++ if cl = true then [.f (iF (es.map fun p => csT cf p.2))] else [])] := fun acc ha => by
    cases cl with
    | true =>
      rw [if_pos rfl]
      exact ⟨_, St1.ifT (by kernel_rfl) (q_l3T (n + 6) ts s cf true nu es hl hp hcf acc ha)⟩
    | false =>
      rw [if_neg (by decide), List.append_nil]
      exact ⟨none, St1.ifF (by kernel_rfl) (by rfl)⟩
  have s4 : ∀ (g : Option Int) (acc : List D), acc.length ≤ 10 → ∃ b H', St1 (n + 21) scQ (rQ ts s cf cl nu es g) [.lst acc] (qSt 4) .next (b ++ rQ ts s cf cl nu es g) (.lst (acc ++ if 3 ≤ s then [.f (iF (es.map fun p => thT cf p.2))] else []) :: H') ∧ (b = [] ∨ b = ([("behind", fI (behT cf))] : Rho)) := fun g acc ha => by
    by_cases q : 3 ≤ s
    · rw [if_pos q]
      obtain ⟨H', h4⟩ := q_l4T (n + 6) ts s cf cl nu es hl hp hcf g acc ha
      exact ⟨[(Str.ofString "behind", fI (behT cf))], H', St1.ifT (by rcases hs with rfl | rfl | rfl; exact absurd q (by decide); exact absurd q (by decide); (cases g <;> kernel_rfl)) h4, .inr rfl⟩
    · rw [if_neg q, List.append_nil]
      exact ⟨[], [], St1.ifF (by rcases hs with rfl | rfl | rfl; (cases g <;> kernel_rfl); (cases g <;> kernel_rfl); exact absurd (by decide) q) (by rfl), .inl rfl⟩
  have l1 : ∀ (c : Prop) [Decidable c] (d : D), (if c then [d] else []).length ≤ 1 := fun c _ d => by split <;> simp
  have e1 := l1 (2 ≤ s) (.f (iF (es.map fun _ => 32)))
  have e2 := l1 (cl = true) (.f (iF (es.map fun p => csT cf p.2)))
  obtain ⟨g, q3⟩ := s3 ([.f (iF (es.map (·.1)))] ++ if 2 ≤ s then [.f (iF (es.map fun _ => 32))] else []) (by rw [List.length_append, List.length_singleton]; omega)
  obtain ⟨b, H', q4, hb⟩ := s4 g (([.f (iF (es.map (·.1)))] ++ if 2 ≤ s then [.f (iF (es.map fun _ => 32))] else []) ++ if cl = true then [.f (iF (es.map fun p => csT cf p.2))] else []) (by rw [List.length_append, List.length_append, List.length_singleton]; omega)
  have eq : ((([D.f (iF (es.map (·.1)))] ++ (if 2 ≤ s then [D.f (iF (es.map fun _ => 32))] else [])) ++ (if cl = true then [D.f (iF (es.map fun p => csT cf p.2))] else [])) ++ (if 3 ≤ s then [D.f (iF (es.map fun p => thT cf p.2))] else [])) = ((lvls s cf cl es).map iF).map D.f := by
    unfold lvls
    by_cases h2 : 2 ≤ s <;> by_cases h3 : 3 ≤ s <;> cases cl <;> simp [h2, h3]
  rw [eq] at q4
  refine Fp (n := n + 21) rfl rfl (fs := [iF ts, waysF s cf cl nu]) rfl (ρ := ρ0) rfl (d := .own 0) (H2 := .lst (((lvls s cf cl es).map iF).map .f) :: H') ⟨b ++ rQ ts s cf cl nu es g, ?_⟩ (fz_own 11 rfl)
  show Sts (n + 21) scQ ρ0 [] (fnT 90).2.1 _ _ _
  refine Sts.cons s0 (Sts.cons (ρ' := rQ ts s cf cl nu es none) (H' := [.lst [.f (iF (es.map (·.1)))]]) (St1.append (k := 0) (ds := []) (d := .f (iF (es.map (·.1)))) (by kernel_rfl) (by rfl) (X.comp (Ecomp (ds := es.map fun p => .f (prF p)) (fs := (es.map (·.1)).map .int) (by kernel_rfl) (q_l_it es hl (by kernel_rfl)) (by first | exact lmap (by assumption) | (rw [List.length_map]; omega)) ?_)) (Nat.le_of_ble_eq_true rfl) (by decide) (by rfl) (by rfl)) (Sts.cons (s2 _ (Nat.le_of_ble_eq_true rfl)) (Sts.cons q3 (Sts.cons q4 (Sts.ret ?_)))))
  · rw [List.map_map]
    exact comp_map (fun p : Row => .f (prF p)) (fun p => .int p.1) (fun _ => True) (fun p _ => ⟨[("third", fI p.2), ("first", fI p.1)], fI p.1, by kernel_rfl, by kernel_rfl, rfl⟩) es fun _ _ => trivial
  · rcases hb with rfl | rfl <;> cases g <;> kernel_rfl
end Mine

end
noncomputable section
set_option Elab.async false
set_option maxRecDepth 100000
set_option linter.unusedVariables false
/-! the law's key -/
open PySem PySem.W
namespace Mine
noncomputable def isKL (d : D) (H : Hp) (acc : List Int) : Prop := d = .f (iF acc) ∨ ∃ k, d = .own k ∧ H[k]? = some (.lst (acc.map fI))
theorem isKL.addN {d : D} {H : Hp} {acc b : List Int} (h : isKL d H acc) (hl : acc.length + b.length ≤ lim) : binV .Add d (.f (iF b)) = none ∧ binL .Add d (.f (iF b)) H = some ((acc ++ b).map .int) := by
  have e : frozenL d H = some (acc.map .int) → binL .Add d (.f (iF b)) H = some ((acc ++ b).map .int) := fun hd => by
    refine bd hd (bd (a := b.map .int) rfl ?_)
    rw [List.length_map, List.length_map, if_pos hl, ← List.map_append]
  rcases h with rfl | ⟨k, rfl, hk⟩
  · exact ⟨rfl, e rfl⟩
  · exact ⟨rfl, e (bd (bd hk (md (toFs_int acc))) rfl)⟩
theorem isKL.add {d : D} {H : Hp} {acc b : List Int} (h : isKL d H acc) (hl : acc.length + b.length ≤ lim) : bin .Add d (.f (iF b)) H = some (.f (iF (acc ++ b))) := by
  have e := h.addN hl
  unfold bin
  rw [e.1]
  exact md e.2
theorem isKL.fz {d : D} {H : Hp} {acc : List Int} (h : isKL d H acc) : ∃ H', fz fuelFz d H = some (iF acc, H') := by
  rcases h with rfl | ⟨k, rfl, hk⟩
  · exact ⟨H, rfl⟩
  · exact ⟨_, fz_int 11 hk⟩
theorem St1.asgB {n : Nat} {sc : Sc} {ρ ρ' : Rho} {H : Hp} {a b : D} {l r : Expr} {op : Operator} {x : Str} {fs : List F} {p p' q : Pos} (h1 : V n sc ρ H l a) (h2 : V n sc ρ H r b) (h3 : binV op a b = none ∧ binL op a b H = some fs) (h4 : putV sc ρ x (.own H.length) = some ρ') (h0 : swapOk (.Name x p') (.BinOp l op r q) = true) :
    St1 n sc ρ H (.Assign [.Name x p'] (.BinOp l op r q) p) .next ρ' (H ++ [.lst (fs.map .f)]) := by
  refine Sasg (d := .own H.length) (H1 := H ++ [.lst (fs.map .f)]) h0 ?_ ?_
  · refine bd h1 (bd h2 ?_)
    dsimp only
    rw [h3.1]
    exact md h3.2
  · show (bindT sc 4 (.Name x p') (.own H.length) ρ).map (fun ρ' => (ρ', H ++ [.lst (fs.map .f)])) = _
    exact md h4
noncomputable abbrev scY : Sc := (fnT 91).2.2.names
noncomputable def yFor : Expr × Expr × List Stmt := forPart ((fnT 91).2.1.getD 1 default)
noncomputable def rY (L : F) (d : D) : Option (List Int) → Rho
  | none => [("found", d), ("levels", .f L)]
  | some l => [("found", d), ("level", .f (iF l)), ("levels", .f L)]
theorem y_loop (n : Nat) (L : F) : ∀ (ls : List (List Int)) (acc : List Int) (d : D) (H : Hp) (o : Option (List Int)), isKL d H acc → acc.length + sumL ls ≤ 20000 →
    ∃ d' H' o', forL (ev T (n + 14)) scY yFor.1 yFor.2.2 ((ls.map iF).map .f) (rY L d o) H = some (.next, rY L d' o', H') ∧ isKL d' H' (acc ++ ls.flatMap (0 :: ·))
  | [], acc, d, H, o, hd, hl => ⟨d, H, o, rfl, by simpa using hd⟩
  | l :: ls, acc, d, H, o, hd, hl => by
    have hlim : lim = 100000 := rfl
    have hs : sumL (l :: ls) = l.length + sumL ls + 1 := by unfold sumL; rw [List.map_cons, List.sum_cons, List.length_cons]; omega
    rw [hs] at hl
    obtain ⟨d', H', o', h, k⟩ := y_loop n L ls (acc ++ [0] ++ l) (.own H.length) (H ++ [.lst (((acc ++ [0] ++ l).map F.int).map .f)]) (some l) (.inr ⟨_, rfl, by rw [List.map_map]; simp; rfl⟩) (by rw [List.length_append, List.length_append, List.length_singleton]; omega)
    refine ⟨d', H', o', FC (ρ1 := [("level", .f (iF l)), ("found", d), ("levels", .f L)]) (by cases o <;> kernel_rfl) ?_ h, ?_⟩
    · show Sts (n + 13) scY [("level", .f (iF l)), ("found", d), ("levels", .f L)] H yFor.2.2 _ _ _
      refine Sts.cons (ρ' := rY L (.own H.length) (some l)) (St1.asgB (a := .f (iF (acc ++ [0]))) (b := .f (iF l)) (fs := (acc ++ [0] ++ l).map F.int) (V.of (X.bin (a := d) (b := .f (iF [0])) (V.nm (by kernel_rfl) (by decide)) (V.lst (by rfl) (by kernel_rfl)) (isKL.add hd (by rw [List.length_singleton]; omega))) (by rfl)) (V.nm (by kernel_rfl) (by decide)) (isKL.addN (.inl rfl) (by rw [List.length_append, List.length_singleton]; omega)) (by kernel_rfl) (by rfl)) Sts.nil
    · rw [List.flatMap_cons, show acc ++ (0 :: l ++ ls.flatMap (0 :: ·)) = acc ++ [0] ++ l ++ ls.flatMap (0 :: ·) by simp]; exact k
theorem c_lkey (n : Nat) (l : List Int) (ls : List (List Int)) (hl : l.length + sumL ls ≤ 20000) (hn : ls.length ≤ 100) (H : Hp) : callFn (ev T (n + 16)) f_law_key [.f (lF (l :: ls))] H = some (.f (iF (keyOf (l :: ls))), H) := by
  have hlim : lim = 100000 := rfl
  obtain ⟨d, H', o, h, k⟩ := y_loop (n + 1) (lF (l :: ls)) ls l (.f (iF l)) [] none (.inl rfl) hl
  obtain ⟨H2, hf⟩ := k.fz
  refine Fp (n := n + 15) rfl rfl (fs := [lF (l :: ls)]) rfl (ρ := [("levels", .f (lF (l :: ls)))]) rfl (d := d) (H2 := H') ⟨rY (lF (l :: ls)) d o, ?_⟩ hf
  show Sts (n + 15) scY _ [] (fnT 91).2.1 _ _ _
  refine Sts.cons (ρ' := rY (lF (l :: ls)) (.f (iF l)) none) (H' := []) (St1.asg (d := .f (iF l)) (X2.s (EcallT (bn := "list") (ds := [.f (iF l)]) (H1 := []) (by kernel_rfl) (xp (by rfl) (V.of (X.idx (a := .f (lF (l :: ls))) (b := fI 0) (V.nm (by kernel_rfl) (by decide)) (by kernel_rfl) (getI_at (i := 0) (l := ((l :: ls).map iF).map .f) (by rfl) (by rfl) (by rw [List.length_map, List.length_map, List.length_cons]; omega)) (by rfl)) (by rfl)) xvN) ?_)) (by kernel_rfl) (by rfl) (by rfl)) (Sts.cons (ρ' := rY (lF (l :: ls)) d o) (H' := H') (Sfor (ds := (ls.map iF).map .f) (H1 := []) (by kernel_rfl) ?_ h) (Sts.ret (by cases o <;> kernel_rfl)))
  · exact md (f := F.lst) (x := limL (l.map F.int)) (if_pos (by first | exact lmap (by assumption) | (rw [List.length_map]; omega)))
  · refine it_lst (by rfl) (V.of ?_ (by rfl)) (by first | exact lmap (by assumption) | (rw [List.length_map]; omega))
    rw [show ls.map iF = sliceL (some 1) none ((l :: ls).map iF) by rw [List.map_cons, slice_tail]]
    exact X.slice (a := .f (lF (l :: ls))) (x := fI 1) (y := .f .none) (V.nm (by kernel_rfl) (by decide)) (by kernel_rfl) rfl rfl (by rw [List.length_map, List.length_cons]; omega) rfl rfl
end Mine

end
noncomputable section
set_option Elab.async false
set_option maxRecDepth 100000
set_option linter.unusedVariables false
/-! the law's deck and draws -/
open PySem PySem.W
namespace Mine
section
variable {n : Nat} {sc : Sc} {ρ ρ1 : Rho} {H H1 H2 : Hp} {d : D} {o e : Expr} {fs : List F} {p sp : Pos}
/-- a def that leaves things behind -/
theorem Fimp {f : Fn} {ds : List D} (h0 : (f.addr == 115) = false) (hp : f.pure = false) (h2 : bindP f ds = some ρ) (h3 : ∃ ρ1, Sts n f.text.2.2.names ρ H f.text.2.1 (.ret d) ρ1 H1) : callFn (ev T (n + 1)) f ds H = some (d, H1) := by
  obtain ⟨ρ1, h3⟩ := h3
  unfold callFn
  rw [if_neg (by simpa using h0), hp]
  exact bd h2 (bd h3 rfl)
theorem X2.rev {hst : X n sc ρ H e (fI (-1))} (h1 : V n sc ρ H o (.f (.lst fs))) (hl : fs.length ≤ lim) : (ev T (n + 1)).ex sc (.Subscript o (.Slice none none (some e) sp) p) ρ H = some (.own H.length, H ++ [.lst (fs.reverse.map .f)]) := by
  refine X2.s (bd h1 (bd (a := (.f .none, H)) rfl (bd (a := (.f .none, H)) rfl (bd hst (bd (a := -1) rfl ?_)))))
  exact md (f := fun fs : List F => (D.own H.length, H ++ [O.lst (dF fs.reverse)])) (x := limL fs) (if_pos hl)
theorem binS {a b : D} {op : Operator} (h : binV op a b = some d) : bin op a b H = some d := by unfold bin; rw [h]
theorem modB {x y : Int} (h : 0 < y) : bin .Mod (fI x) (fI y) H = some (fI (Int.fmod x y)) := binS (md (f := fun z => fI z) (x := modI x y) (if_neg (by first | exact le_lim (by assumption) | omega)))
end
theorem dpC {n : Nat} {sc : Sc} {ρ : Rho} {H H1 H2 : Hp} {k v : Expr} {ks : List (Option Expr)} {vs : List Expr} {key : Str} {d : D} {ps : List (Str × D)} (h1 : (ev T n).ex sc k ρ H = some (.f (.str key), H)) (h2 : (ev T n).ex sc v ρ H = some (d, H1)) (h3 : dpairs (ev T n) sc ρ ks vs H1 = some (ps, H2)) : dpairs (ev T n) sc ρ (some k :: ks) (v :: vs) H = some ((key, d) :: ps, H2) :=
  bd (a := k) rfl (bd (a := v) rfl (bd h1 (bd (a := key) rfl (bd h2 (md h3)))))
theorem Edict {T : Tabs} {R : Rec} {sc : Sc} {ρ : Rho} {H H1 : Hp} {ks : List (Option Expr)} {vs : List Expr} {ps : List (Str × D)} {p : Pos} (h0 : decide (ks.length ≤ 15) = true) (h : dpairs R sc ρ ks vs H = some (ps, H1)) : stepEx T R sc (.Dict ks vs p) ρ H = some (.own H1.length, H1 ++ [.dct (ps.foldl (fun es p => setL es (.s p.1) p.2) [])]) := by
  show (if ks.length ≤ 15 then (dpairs R sc ρ ks vs H).map (fun x => (D.own x.2.length, x.2 ++ [O.dct (x.1.foldl (fun es p => setL es (.s p.1) p.2) [])])) else none) = _
  rw [if_pos (of_decide_eq_true h0)]
  exact md h
theorem fmod_b {x y : Int} (h : 0 < y) : 0 ≤ Int.fmod x y ∧ Int.fmod x y < y := by
  refine ⟨?_, Int.fmod_lt_of_pos x h⟩
  rw [Int.fmod_eq_emod_of_nonneg x (by first | exact le_lim (by assumption) | omega)]
  exact Int.emod_nonneg x (by first | exact le_lim (by assumption) | omega)
theorem slice_pre (fs : List F) (k : Nat) : sliceL none (some (k : Int)) fs = fs.take k := by
  show (fs.take (clp fs.length (k : Int))).drop 0 = _
  rw [List.drop_zero, clp_nat, List.take_eq_take_iff, Nat.min_assoc, Nat.min_self]
noncomputable def hD (cs : List Int) (m : Int) (K : Hp) : Hp := O.lst (cs.map fI) :: O.dct [(.s (Str.ofString "cells"), .own 0), (.s (Str.ofString "mixed"), fI m)] :: K
noncomputable abbrev scU : Sc := (fnT 85).2.2.names
noncomputable def uFor : Expr × Expr × List Stmt := forPart ((fnT 85).2.1.getD 1 default)
noncomputable def rU (xs ys : List Int) (m : Int) : Option Int → Rho
  | none => [("mixed", fI m), ("cells", .f (iF ys)), ("script", .f (iF xs))]
  | some c => [("mixed", fI m), ("cell", fI c), ("cells", .f (iF ys)), ("script", .f (iF xs))]
theorem u_loop (n : Nat) (xs ys : List Int) : ∀ (cs : List Int) (m : Int) (o : Option Int), ∃ m' o', forL (ev T (n + 14)) scU uFor.1 uFor.2.2 (cs.map fI) (rU xs ys m o) [] = some (.next, rU xs ys m' o', [])
  | [], m, o => ⟨m, o, rfl⟩
  | c :: cs, m, o => by
    obtain ⟨m', o', h⟩ := u_loop n xs ys cs (Int.fmod (m * 31 + c) 1000003) (some c)
    exact ⟨m', o', FC (ρ1 := [("cell", fI c), ("mixed", fI m), ("cells", .f (iF ys)), ("script", .f (iF xs))]) (by cases o <;> kernel_rfl) (by kernel_rfl) h⟩
theorem c_deck (n : Nat) (xs : List Int) (hl : xs.length ≤ 63) : ∃ cs m, callFn (ev T (n + 20)) f_law_deck [.f (iF xs)] [] = some (.own 1, hD cs m []) ∧ cs.length ≤ 40 := by
  have hlim : lim = 100000 := rfl
  have yl : (xs.take 40).length ≤ 40 := by rw [List.length_take]; omega
  generalize hy : xs.take 40 = ys at yl
  obtain ⟨m, o, h⟩ := u_loop (n + 5) xs ys ys 11 none
  refine ⟨ys.reverse, m, Fimp (n := n + 19) rfl rfl (ρ := [("script", .f (iF xs))]) rfl ⟨rU xs ys m o, ?_⟩, by rw [List.length_reverse]; exact yl⟩
  show Sts (n + 19) scU _ [] (fnT 85).2.1 _ _ _
  refine Sts.cons (ρ' := rU xs ys 11 none) (H' := []) (St1.asgT (d := .f (.tup [iF ys, .int 11])) (X2.s (Etup (ds := [.f (iF ys), fI 11]) (by rfl) (xsp (by rfl) (X.comp (Ecomp (ds := ys.map fI) (fs := ys.map .int) (H1 := []) (by kernel_rfl) ?_ (by first | exact lmap (by assumption) | (rw [List.length_map]; omega)) ?_)) (by kernel_rfl)))) (by kernel_rfl) (by kernel_rfl) (by rfl)) ?_
  · rw [← hy]
    have hs : sliceL none (some 40) (xs.map F.int) = (xs.map F.int).take 40 := slice_pre (xs.map F.int) 40
    rw [show (List.take 40 xs).map fI = (sliceL none (some 40) (xs.map F.int)).map D.f by rw [hs, ← List.map_take, List.map_map]; rfl]
    refine it_lst (by rfl) (V.of (X.slice (a := .f (iF xs)) (x := .f .none) (y := fI 40) (V.nm (by kernel_rfl) (by decide)) rfl (by kernel_rfl) rfl (by first | exact lmap (by assumption) | (rw [List.length_map]; omega)) rfl rfl) (by rfl)) (by rw [hs, List.length_take, List.length_map]; omega)
  · exact comp_map (fun c : Int => fI c) (fun c => .int c) (fun _ => True) (fun c _ => ⟨[("cell", fI c)], fI c, by kernel_rfl, by kernel_rfl, rfl⟩) ys fun _ _ => trivial
  refine Sts.cons (ρ' := rU xs ys m o) (H' := []) (Sfor (ds := ys.map fI) (H1 := []) (by kernel_rfl) ?_ h) (Sts.ret (Sreturn (xV (by rfl) (X2.s ?_))))
  · refine (it_nm (fs := ys.map .int) (by kernel_rfl) (by first | exact lmap (by assumption) | (rw [List.length_map]; omega)) (by decide)).trans ?_
    rw [List.map_map]; rfl
  · refine (Edict (ps := [(Str.ofString "cells", .own 0), (Str.ofString "mixed", fI m)]) (H1 := [.lst (ys.reverse.map fI)]) (by rfl) ?_).trans rfl
    refine dpC (by kernel_rfl) (H1 := [.lst (ys.reverse.map fI)]) (d := .own 0) ?_ (dpC (by kernel_rfl) (H1 := [.lst (ys.reverse.map fI)]) (d := fI m) (by cases o <;> kernel_rfl) rfl)
    refine (X2.rev (n := n + 17) (sc := scU) (ρ := rU xs ys m o) (H := []) (fs := ys.map .int) (hst := by rfl) (V.nm (d := .f (iF ys)) (by cases o <;> kernel_rfl) (by decide)) (by first | exact lmap (by assumption) | (rw [List.length_map]; omega))).trans ?_
    rw [← List.map_reverse, List.map_map]; rfl
noncomputable abbrev scDr : Sc := (fnT 86).2.2.names
theorem pop_own {k : Nat} {H : Hp} {l : List D} {x : D} (hk : H[k]? = some (.lst l)) (hl : l.length ≤ lim) (hx : l.getLast? = some x) : meth (.own k) "pop" [] H = some (x, H.set k (.lst l.dropLast)) := by
  unfold meth
  rw [ownL_at hk]
  refine (if_pos hl).trans (md (a := (x, l.dropLast)) ?_)
  unfold methL
  rw [if_neg (by decide), if_neg (by decide), if_pos rfl]
  exact (if_pos rfl).trans (md hx)
theorem c_draw (n : Nat) (cs : List Int) (m many : Int) (K : Hp) (hm : 0 < many) (hl : cs.length ≤ 40) : ∃ r cs' m', callFn (ev T (n + 16)) f_law_draw [.own 1, fI many] (hD cs m K) = some (fI r, hD cs' m' K) ∧ (0 ≤ r ∧ r < many) ∧ cs'.length ≤ 40 := by
  have hlim : lim = 100000 := rfl
  let ρ0 : Rho := [("deck", .own 1), ("many", fI many)]
  rcases List.eq_nil_or_concat cs with rfl | ⟨q, c, e⟩
  · refine ⟨Int.fmod (Int.fdiv (Int.fmod (m * 16807 + 29) 2147483647) 64) many, [], Int.fmod (m * 16807 + 29) 2147483647, Fimp (n := n + 15) rfl rfl (ρ := ρ0) rfl ⟨ρ0, ?_⟩, fmod_b hm, Nat.zero_le _⟩
    show Sts (n + 15) scDr ρ0 (hD [] m K) (fnT 86).2.1 _ _ _
    refine Sts.cons (ρ' := ρ0) (H' := hD [] m K) (by kernel_rfl) (Sts.cons (ρ' := ρ0) (H' := hD [] (Int.fmod (m * 16807 + 29) 2147483647) K) (by kernel_rfl) (Sts.ret (Sreturn (xV (by rfl) (X.bin (a := fI (Int.fdiv (Int.fmod (m * 16807 + 29) 2147483647) 64)) (b := fI many) (by kernel_rfl) (by kernel_rfl) (modB hm))))))
  · rw [List.concat_eq_append] at e
    subst e
    rw [List.length_append, List.length_singleton] at hl
    have e0 : cmp .NotEq (.own 0) (.f (.lst [])) (hD (q ++ [c]) m K) = some true := by
      refine (neNil (l := (q ++ [c]).map fI) rfl).trans ?_
      rw [List.map_append]; simp
    have hH : hD q m K = (hD (q ++ [c]) m K).set 0 (.lst (((q ++ [c]).map fI).dropLast)) := by
      rw [List.map_append]; simp [hD]
    refine ⟨Int.fmod c many, q, m, Fimp (n := n + 15) rfl rfl (ρ := ρ0) rfl ⟨ρ0, ?_⟩, fmod_b hm, by omega⟩
    show Sts (n + 15) scDr ρ0 (hD (q ++ [c]) m K) (fnT 86).2.1 _ _ _
    refine Sts.ret (St1.ifT (B.cmp (a := .own 0) (b := .f (.lst [])) (by kernel_rfl) (by kernel_rfl) e0 (by rfl)) ?_)
    show Sts (n + 14) scDr ρ0 (hD (q ++ [c]) m K) _ _ _ _
    refine Sts.ret (Sreturn (xV (by rfl) (X2.s (Ebin (a := fI c) (b := fI many) (H1 := hD q m K) (xV (by rfl) (X2.s (EmethL (d := .own 0) (ds := []) (H1 := hD (q ++ [c]) m K) (H2 := hD (q ++ [c]) m K) (by rfl) (by rfl) (by kernel_rfl) (by kernel_rfl) (by kernel_rfl) (by rw [if_neg (by decide)]; exact xvN) ?_))) (by kernel_rfl) (modB hm)))))
    rw [hH]
    exact pop_own (k := 0) (l := (q ++ [c]).map fI) rfl (by rw [List.length_map, List.length_append, List.length_singleton]; omega) (by rw [List.map_append]; simp)
end Mine

end
noncomputable section
set_option Elab.async false
set_option maxRecDepth 100000
set_option linter.unusedVariables false
/-! the law: what it builds -/
open PySem PySem.W
namespace Mine
section
variable {n : Nat} {sc : Sc} {ρ ρ' ρ1 ρ2 : Rho} {H H1 H2 H3 : Hp} {a b d : D} {x : Str} {l r : Expr} {op : Operator} {fs vs : List F} {p p' q : Pos}
theorem Sts.app : ∀ {l1 l2 : List Stmt} {ρ : Rho} {H : Hp} {fl : Fl}, Sts n sc ρ H l1 .next ρ1 H1 → Sts n sc ρ1 H1 l2 fl ρ2 H2 → Sts n sc ρ H (l1 ++ l2) fl ρ2 H2
  | [], l2, ρ, H, fl, h1, h2 => by cases h1; exact h2
  | s :: l1, l2, ρ, H, fl, h1, h2 => by
    obtain ⟨⟨f, ρ3, H3⟩, e, k⟩ := Option.bind_eq_some_iff.mp h1
    cases f with
    | next => exact Sts.cons e (Sts.app k h2)
    | _ => cases k
theorem St1.asgB2 (h1 : exV (ev T n) sc l ρ H = some (a, H1)) (h2 : exV (ev T n) sc r ρ H1 = some (b, H2)) (h3 : binV op a b = some (.f (.tup fs))) (h4 : putV sc ρ x (.f (.tup fs)) = some ρ') (h0 : swapOk (.Name x p') (.BinOp l op r q) = true) :
    St1 n sc ρ H (.Assign [.Name x p'] (.BinOp l op r q) p) .next ρ' H2 := by
  refine Sasg (d := .f (.tup fs)) (H1 := H2) h0 ?_ ?_
  · refine bd h1 (bd h2 ?_)
    dsimp only
    rw [h3]
  · show (bindT sc 4 (.Name x p') (.f (.tup fs)) ρ).map (fun ρ' => (ρ', H2)) = _
    exact md h4
theorem compC {R : Rec} {elt tgt : Expr} {d0 : D} {ds : List D} {v : F} (h1 : bindT sc 4 tgt d0 ρ = some ρ') (h2 : R.ex sc elt ρ' H = some (d, H1)) (h3 : fz fuelFz d H1 = some (v, H2)) (h4 : compL R sc elt tgt [] ρ ds H2 = some (vs, H3)) : compL R sc elt tgt [] ρ (d0 :: ds) H = some (v :: vs, H3) := by
  unfold compL
  exact bd h1 (bd (a := (true, H)) rfl (bd h2 (bd h3 (md h4))))
theorem draw_call {cs : List Int} {m r many : Int} {cs' : List Int} {m' : Int} {K : Hp} {k} {np p1 p2 pos : Pos} (h : callFn (ev T (n + 16)) f_law_draw [.own 1, fI many] (hD cs m K) = some (fI r, hD cs' m' K)) (h1 : var T sc ρ "_law_draw" = some (.f (.glob (.ref 667)))) (h2 : var T sc ρ "deck" = some (.own 1)) :
    (ev T (n + 17)).ex sc (.Call (.Name "_law_draw" np) [.Name "deck" p1, .Constant (.int many) k p2] [] pos) ρ (hD cs m K) = some (fI r, hD cs' m' K) :=
  (X2.s (Ecall (f := f_law_draw) (ad := 667) (ds := [.own 1, fI many]) (H1 := hD cs m K) (X.nm h1 (by decide)) (by kernel_rfl) (xp (by rfl) (V.nm h2 (by decide)) (xp (by rfl) V.int xvN)) h))
end
noncomputable abbrev scM : Sc := (fnT 93).2.2.names
noncomputable def mSt (i : Nat) : Stmt := (fnT 93).2.1.getD i default
noncomputable def mBody : Expr × Expr × List Stmt := forPart (mSt 5)
/-- the signs, drawn -/
theorem sign_at (H : Hp) {r : Int} (h : 0 ≤ r ∧ r < 8) : ∃ c, c ∈ SG ∧ getI (.f (.tup (SG.map .int))) (fI r) H = some (fI c) := by
  obtain ⟨h1, h2⟩ := h
  obtain ⟨i, rfl⟩ := Int.eq_ofNat_of_zero_le h1
  have hi : i < SG.length := Int.ofNat_lt.mp h2
  exact ⟨SG[i], List.getElem_mem hi, getI_sq (l := SG.map fI) rfl (by rw [List.getElem?_map, List.getElem?_eq_getElem hi]; rfl) (by decide)⟩
noncomputable def listComp : Expr → Expr × List Comprehension × Scope
  | .ListComp a b s _ => (a, b, s)
  | _ => default
noncomputable def appArg : Stmt → Expr
  | .Expr (.Call _ [e] _ _) _ => e
  | _ => default
noncomputable def mComp : Expr × List Comprehension × Scope := listComp (appArg (mBody.2.2.getD 0 default))
theorem m_draws (n : Nat) (K : Hp) : ∀ (ds : List D) (cs : List Int) (m : Int), cs.length ≤ 40 → ∃ (t cs' : List Int) (m' : Int), compL (ev T (n + 19)) mComp.2.2.names mComp.1 (mComp.2.1.getD 0 ⟨default, default, [], 0⟩).target [] [("deck", .own 1)] ds (hD cs m K) = some (t.map .int, hD cs' m' K) ∧ (∀ c ∈ t, c ∈ SG) ∧ t.length = ds.length ∧ cs'.length ≤ 40
  | [], cs, m, h => ⟨[], cs, m, rfl, (fun _ q => nomatch q), rfl, h⟩
  | d :: ds, cs, m, h => by
    obtain ⟨r, cs1, m1, h1, h2, h3⟩ := c_draw (n + 1) cs m 8 K (by decide) h
    obtain ⟨c, hc, hg⟩ := sign_at (hD cs1 m1 K) h2
    obtain ⟨t, cs2, m2, k1, k2, k3, k4⟩ := m_draws n K ds cs1 m1 h3
    refine ⟨c :: t, cs2, m2, compC (ρ' := [("k", d), ("deck", .own 1)]) (by kernel_rfl) (X2.s (Eidx (a := .f (.tup (SG.map .int))) (b := fI r) (H1 := hD cs m K) (by rfl) (by kernel_rfl) ?_ hg)) rfl k1, ?_, ?_, k4⟩
    · exact draw_call (n := n + 1) h1 (by kernel_rfl) (by kernel_rfl)
    · intro x hx
      rcases List.mem_cons.mp hx with rfl | hx
      · exact hc
      · exact k2 x hx
    · rw [List.length_cons, List.length_cons, k3]
noncomputable def bW (s : Int) (cf : Str) (cl nu : Bool) (xs : List Int) : Rho := [("options", .own 3), ("texts", .own 2), ("data", .f datF), ("table", .f tblF), ("ways", .f (waysF s cf cl nu)), ("deck", .own 1), ("script", .f (iF xs))]
noncomputable def b5 (s : Int) (cf : Str) (cl nu : Bool) (xs : List Int) : Option Int → Rho
  | none => bW s cf cl nu xs
  | some i => ("turn", fI i) :: bW s cf cl nu xs
noncomputable def optO (s : Int) (cf : Str) (cl nu : Bool) : O := .ins 214 [("factors", .f (.tup [.int 1, .int 1, .int 1])), ("how", .f (.str "non-ignorable")), ("strength", fI s), ("is_backwards", fB false), ("case_first", .f (.str cf)), ("has_case_level", fB cl), ("is_numeric", fB nu), ("reorder", .f .none)]
noncomputable abbrev tD (t : List Int) : D := .f (iF t)
section
variable (n : Nat) (s : Int) (cf : Str) (cl nu : Bool) (xs : List Int)
theorem m_turn (i : Int) (o : Option Int) (tx : List (List Int)) (cs : List Int) (m : Int) (hl : tx.length ≤ 3) (hc : cs.length ≤ 40) :
    ∃ (t cs' : List Int) (m' : Int), (ev T (n + 24)).st scM mBody.2.2 (b5 s cf cl nu xs (some i)) (hD cs m [.lst (tx.map tD), optO s cf cl nu]) = some (.next, b5 s cf cl nu xs (some i), hD cs' m' [.lst ((tx ++ [t]).map tD), optO s cf cl nu]) ∧ TxOk t ∧ cs'.length ≤ 40 := by
  have hlim : lim = 100000 := rfl
  obtain ⟨r, cs1, m1, h1, h2, h3⟩ := c_draw (n + 3) cs m 7 [.lst (tx.map tD), optO s cf cl nu] (by decide) hc
  obtain ⟨t, cs2, m2, k1, k2, k3, k4⟩ := m_draws (n + 2) [.lst (tx.map tD), optO s cf cl nu] (rngL 0 r) cs1 m1 h3
  have hr : (rngL 0 r).length ≤ 10 := by unfold rngL; rw [List.length_map, List.length_range]; omega
  refine ⟨t, cs2, m2, ?_, ⟨k2, by omega⟩, k4⟩
  show Sts (n + 23) scM (b5 s cf cl nu xs (some i)) _ mBody.2.2 _ _ _
  have e : hD cs2 m2 [.lst ((tx ++ [t]).map tD), optO s cf cl nu] = (hD cs2 m2 [.lst (tx.map tD), optO s cf cl nu]).set 2 (.lst (tx.map tD ++ [tD t])) := by rw [List.map_append]; rfl
  rw [e]
  refine Sts.cons (St1.mApp (k := 2) (ds := tx.map tD) (d := tD t) (H1 := hD cs2 m2 [.lst (tx.map tD), optO s cf cl nu]) (by rfl) (X.nm (by kernel_rfl) (by decide)) (by rfl) (X.comp (Ecomp (ds := rngL 0 r) (H1 := hD cs1 m1 [.lst (tx.map tD), optO s cf cl nu]) (by kernel_rfl) ?_ (by first | exact le_lim (by assumption) | omega) ?_)) (by rfl) (by first | exact lmap (by assumption) | (rw [List.length_map]; omega)) (by rfl) (by rfl)) Sts.nil
  · show (exV (ev T (n + 21)) scM _ (b5 s cf cl nu xs (some i)) _).bind (fun x => itemsOf x.1 x.2) = _
    refine bd (a := (.f (.rng 0 r), hD cs1 m1 [.lst (tx.map tD), optO s cf cl nu])) (xV (by rfl) (X2.s (EcallT (bn := "range") (ds := [fI r]) (H1 := hD cs1 m1 [.lst (tx.map tD), optO s cf cl nu]) (by kernel_rfl) (xvC (by rfl) (xV (by rfl) (draw_call (n := n + 3) h1 (by kernel_rfl) (by kernel_rfl))) xvN) (by kernel_rfl)))) ?_
    exact rngI (by first | exact le_lim (by assumption) | omega)
  · exact k1
theorem m_turns (hl : xs.length ≤ 63) (cs : List Int) (m : Int) (hc : cs.length ≤ 40) : ∃ (tx : List (List Int)) (cs' : List Int) (m' : Int), tx.length = 3 ∧ (∀ t ∈ tx, TxOk t) ∧ forL (ev T (n + 24)) scM mBody.1 mBody.2.2 [fI 0, fI 1, fI 2] (b5 s cf cl nu xs none) (hD cs m [.lst [], optO s cf cl nu]) = some (.next, b5 s cf cl nu xs (some 2), hD cs' m' [.lst (tx.map tD), optO s cf cl nu]) := by
  obtain ⟨t0, cs0, m0, a0, a1, a2⟩ := m_turn n s cf cl nu xs 0 none [] cs m (by decide) hc
  obtain ⟨t1, cs1, m1, c0, c1, c2⟩ := m_turn n s cf cl nu xs 1 (some 0) [t0] cs0 m0 (Nat.le_of_ble_eq_true rfl) a2
  obtain ⟨t2, cs2, m2, e0, e1, e2⟩ := m_turn n s cf cl nu xs 2 (some 1) [t0, t1] cs1 m1 (Nat.le_of_ble_eq_true rfl) c2
  refine ⟨[t0, t1, t2], cs2, m2, rfl, ?_, FC (by kernel_rfl) a0 (FC (by kernel_rfl) c0 (FC (by kernel_rfl) e0 FN))⟩
  intro t ht
  simp only [List.mem_cons, List.not_mem_nil, or_false] at ht
  rcases ht with rfl | rfl | rfl
  · exact a1
  · exact c1
  · exact e1
end
theorem three {r : Int} (h : 0 ≤ r ∧ r < 3) : r = 0 ∨ r = 1 ∨ r = 2 := by omega
theorem cf_at (H : Hp) {r : Int} (h : 0 ≤ r ∧ r < 3) : ∃ cf : Str, CfOk cf ∧ getI (.f (.lst [.str "", .str "upper", .str "lower"])) (fI r) H = some (.f (.str cf)) := by
  rcases three h with rfl | rfl | rfl
  · exact ⟨"", .inl rfl, by kernel_rfl⟩
  · exact ⟨"upper", .inr (.inl rfl), by kernel_rfl⟩
  · exact ⟨"lower", .inr (.inr rfl), by kernel_rfl⟩
theorem law_a (n : Nat) (xs : List Int) (hl : xs.length ≤ 63) : ∃ (s : Int) (cf : Str) (cl nu : Bool) (cs : List Int) (m : Int) (tx : List (List Int)), SOk s ∧ CfOk cf ∧ tx.length = 3 ∧ (∀ t ∈ tx, TxOk t) ∧
    Sts (n + 59) scM [("script", .f (iF xs))] [] ((fnT 93).2.1.take 6) .next (b5 s cf cl nu xs (some 2)) (hD cs m [.lst (tx.map tD), optO s cf cl nu]) := by
  have hlim : lim = 100000 := rfl
  obtain ⟨cs0, m0, a0, a1⟩ := c_deck (n + 38) xs hl
  obtain ⟨r1, cs1, m1, d1, u1, v1⟩ := c_draw (n + 40) cs0 m0 3 [] (by decide) a1
  obtain ⟨r2, cs2, m2, d2, u2, v2⟩ := c_draw (n + 40) cs1 m1 3 [] (by decide) v1
  obtain ⟨r3, cs3, m3, d3, u3, v3⟩ := c_draw (n + 40) cs2 m2 2 [] (by decide) v2
  obtain ⟨r4, cs4, m4, d4, u4, v4⟩ := c_draw (n + 40) cs3 m3 2 [] (by decide) v3
  obtain ⟨cf, hcf, gcf⟩ := cf_at (hD cs2 m2 []) u2
  have hs : SOk (1 + r1) := by unfold SOk; omega
  generalize hsv : 1 + r1 = s at hs
  generalize hcl : decide (r3 = 1) = cl
  generalize hnu : decide (r4 = 0) = nu
  obtain ⟨tx, cs5, m5, e1, e2, e3⟩ := m_turns (n + 35) s cf cl nu xs hl cs4 m4 v4
  refine ⟨s, cf, cl, nu, cs5, m5, tx, hs, hcf, e1, e2, ?_⟩
  refine Sts.cons (ρ' := [("deck", .own 1), ("script", .f (iF xs))]) (H' := hD cs0 m0 []) (St1.asg (d := .own 1) (X2.s (Ecall (f := f_law_deck) (ad := 660) (ds := [.f (iF xs)]) (H1 := []) (by kernel_rfl) (by kernel_rfl) (by kernel_rfl) a0)) (by kernel_rfl) (by rfl) (by rfl)) ?_
  refine Sts.cons (ρ' := [("ways", .f (.tup [.int s, .str cf, .bool cl])), ("deck", .own 1), ("script", .f (iF xs))]) (H' := hD cs3 m3 []) (St1.asg (d := .f (.tup [.int s, .str cf, .bool cl])) (X2.s (Etup (ds := [fI s, .f (.str cf), fB cl]) (by rfl) (xsC (H1 := hD cs1 m1 []) (by rfl) ?_ (xsC (H1 := hD cs2 m2 []) (by rfl) ?_ (xsC (H1 := hD cs3 m3 []) (by rfl) ?_ xsN))))) (by kernel_rfl) (by rfl) (by rfl)) ?_
  · refine X2.s (Ebin (a := fI 1) (b := fI r1) (H1 := hD cs0 m0 []) (by kernel_rfl) (xV (by rfl) (draw_call d1 (by kernel_rfl) (by kernel_rfl))) ?_)
    rw [← hsv]; rfl
  · exact X2.s (Eidx (a := .f (.lst [.str "", .str "upper", .str "lower"])) (b := fI r2) (H1 := hD cs1 m1 []) (by rfl) (by kernel_rfl) (draw_call d2 (by kernel_rfl) (by kernel_rfl)) gcf)
  · refine X2.s (Ecmp (a := fI r3) (b := fI 1) (H1 := hD cs3 m3 []) (by rfl) (xV (by rfl) (draw_call d3 (by kernel_rfl) (by kernel_rfl))) (by kernel_rfl) ?_)
    rw [eqI, hcl]
  refine Sts.cons (ρ' := [("ways", .f (waysF s cf cl nu)), ("deck", .own 1), ("script", .f (iF xs))]) (H' := hD cs4 m4 []) (St1.asgB2 (fs := [.int s, .str cf, .bool cl, .bool nu]) (a := .f (.tup [.int s, .str cf, .bool cl])) (b := .f (.tup [.bool nu])) (H1 := hD cs3 m3 []) (by kernel_rfl) (xV (by rfl) (X2.s (Etup (ds := [fB nu]) (by rfl) (xsC (H1 := hD cs4 m4 []) (by rfl) ?_ xsN)))) (by kernel_rfl) (by kernel_rfl) (by rfl)) ?_
  · refine X2.s (Ecmp (a := fI r4) (b := fI 0) (H1 := hD cs4 m4 []) (by rfl) (xV (by rfl) (draw_call d4 (by kernel_rfl) (by kernel_rfl))) (by kernel_rfl) ?_)
    rw [eqI, hnu]
  refine Sts.cons (ρ' := [("texts", .own 2), ("data", .f datF), ("table", .f tblF), ("ways", .f (waysF s cf cl nu)), ("deck", .own 1), ("script", .f (iF xs))]) (H' := hD cs4 m4 [.lst []]) (St1.asgT (d := .tup [.f (.tup [tblF, datF]), .own 2]) (X2.s (Etup (ds := [.f (.tup [tblF, datF]), .own 2]) (by rfl) (xsC (H1 := hD cs4 m4 []) (by rfl) (X2.s (Ecall (f := f_law_tables) (ad := 674) (ds := []) (H1 := hD cs4 m4 []) (by kernel_rfl) (by kernel_rfl) xvN (c_tables (n + 43) _))) (by kernel_rfl)))) (by kernel_rfl) (by kernel_rfl) (by rfl)) ?_
  refine Sts.cons (ρ' := bW s cf cl nu xs) (H' := hD cs4 m4 [.lst [], optO s cf cl nu]) (St1.asg (d := .own 3) (X2.s (EcallV (v := .f (.glob (.ref 214))) (ds := [.f (.str "non-ignorable"), fI s, fB false, .f (.str cf), fB cl, fB nu]) (H1 := hD cs4 m4 [.lst []]) (by kernel_rfl) (by kernel_rfl) (by kernel_rfl))) (by kernel_rfl) (by rfl) (by rfl)) ?_
  exact Sts.cons (Sfor (ds := [fI 0, fI 1, fI 2]) (H1 := hD cs4 m4 [.lst [], optO s cf cl nu]) (by kernel_rfl) (by kernel_rfl) e3) Sts.nil
end Mine

end
noncomputable section
set_option Elab.async false
set_option maxRecDepth 100000
set_option linter.unusedVariables false
/-! the law: plain facts -/
open PySem PySem.W
namespace Mine
/-! equal lists -/
theorem eqs_self (A : List (List Int)) : (eqs (eqN 2) (A.map iF) (A.map iF)).map (fun l => l.all id) = some true := by
  induction A with
  | nil => rfl
  | cons a A ih =>
    obtain ⟨l, h1, h2⟩ := Option.map_eq_some_iff.mp ih
    rw [List.map_cons]
    unfold eqs
    rw [eq_ints 1 a a, h1]
    show some (decide (a = a) && l.all id) = _
    rw [h2]; simp
theorem neSelf (A : List (List Int)) (H : Hp) (h : A ≠ []) : cmp .NotEq (.f (lF A)) (.f (lF A)) H = some false := by
  cases A with
  | nil => exact absurd rfl h
  | cons a A =>
    have e : eqN 3 (lF (a :: A)) (lF (a :: A)) = some true := by
      show (if ((a :: A).map iF).length = ((a :: A).map iF).length then (eqs (eqN 2) ((a :: A).map iF) ((a :: A).map iF)).map (fun l => l.all id) else some false) = _
      rw [if_pos rfl]; exact eqs_self (a :: A)
    show (eqN 3 (lF (a :: A)) (lF (a :: A))).map (!·) = _
    rw [e]; rfl
theorem eqL (a b : List Int) (H : Hp) : cmp .Eq (.f (iF a)) (.f (iF b)) H = some (decide (a = b)) := by
  cases b with
  | nil => exact eqNil
  | cons y b => exact eq_ints 2 a (y :: b)
theorem neB2 (t : Bool) (H : Hp) : cmp .NotEq (fB t) (fB t) H = some false := by cases t <;> rfl
theorem ordL (op : CmpOp) (hop : op = .Lt ∨ op = .LtE) (a b : List Int) (H : Hp) : cmp op (.f (iF a)) (.f (iF b)) H = some (okOp op (cmpL a b)) := by
  rcases hop with rfl | rfl
  · exact ord_ints 1 .Lt (.inl rfl) a b
  · exact ord_ints 1 .LtE (.inr (.inl rfl)) a b
/-! lengths -/
theorem key_len : ∀ ls : List (List Int), (keyOf ls).length ≤ sumL ls
  | [] => Nat.zero_le _
  | l :: r => by
    have h : ∀ r : List (List Int), (r.flatMap (0 :: ·)).length = sumL r := fun r => by
      induction r with
      | nil => rfl
      | cons x r ih => rw [List.flatMap_cons, List.length_append, ih, List.length_cons]; unfold sumL; rw [List.map_cons, List.sum_cons, List.length_cons]; omega
    show (l ++ r.flatMap (0 :: ·)).length ≤ _
    rw [List.length_append, h]
    unfold sumL
    rw [List.map_cons, List.sum_cons, List.length_cons]; omega
theorem mem_len {l : List Int} : ∀ {ls : List (List Int)}, l ∈ ls → l.length ≤ sumL ls
  | [], h => by cases h
  | x :: r, h => by
    unfold sumL
    rw [List.map_cons, List.sum_cons, List.length_cons]
    rcases List.mem_cons.mp h with rfl | h
    · omega
    · have := mem_len h; unfold sumL at this; omega
/-! merging -/
theorem mergeL_zip : ∀ A C : List (List Int), mergeL A C = (A.zip C).map fun p => p.1 ++ [1] ++ p.2
  | [], _ => by cases ‹List (List Int)› <;> rfl
  | _ :: _, [] => rfl
  | a :: A, c :: C => by rw [List.zip_cons_cons, List.map_cons, ← mergeL_zip A C]; rfl
theorem mergeL_sum : ∀ A C : List (List Int), sumL (mergeL A C) ≤ sumL A + sumL C + A.length
  | [], _ => by cases ‹List (List Int)› <;> exact Nat.zero_le _
  | _ :: _, [] => Nat.zero_le _
  | a :: A, c :: C => by
    have := mergeL_sum A C
    show sumL ((a ++ [1] ++ c) :: mergeL A C) ≤ _
    unfold sumL at this ⊢
    simp only [List.map_cons, List.sum_cons, List.length_cons, List.length_append, List.length_nil]
    omega
theorem mergeL_n : ∀ A C : List (List Int), (mergeL A C).length ≤ A.length
  | [], _ => by cases ‹List (List Int)› <;> exact Nat.zero_le _
  | _ :: _, [] => Nat.zero_le _
  | a :: A, c :: C => Nat.succ_le_succ (mergeL_n A C)
/-! bounds -/
noncomputable def hiL (l : List Int) : List Int := match l with
  | [] => []
  | x :: r => (x :: r).dropLast ++ [(x :: r).getLast (by simp) + 1]
noncomputable def inB (l K : List Int) : Bool := okOp .LtE (cmpL l K) && (decide (l = []) || okOp .Lt (cmpL K (hiL l)))
theorem hiL_one (x : Int) : hiL [x] = [x + 1] := rfl
theorem hiL_cons (x y : Int) (r : List Int) : hiL (x :: y :: r) = x :: hiL (y :: r) := by
  unfold hiL; simp
theorem zr {R : List Int} (hR : R = [] ∨ ∃ r, R = 0 :: r) (x : Int) (l : List Int) (hx : 0 < x) : cmpL (x :: l) R = 1 := by
  rcases hR with rfl | ⟨r, rfl⟩
  · exact cmpL_cn x l
  · rw [cmpL_cc, if_neg (by first | exact le_lim (by assumption) | omega), if_neg (by first | exact le_lim (by assumption) | omega)]
theorem inB_cons : ∀ (l : List Int) (x : Int) (F R : List Int), (∀ y ∈ x :: l, 0 < y) → (∀ y ∈ F, 0 < y) → (R = [] ∨ ∃ r, R = 0 :: r) →
    (okOp .LtE (cmpL (x :: l) (F ++ R)) && okOp .Lt (cmpL (F ++ R) (hiL (x :: l)))) = decide (F.take (x :: l).length = x :: l)
  | l, x, [], R, hl, hF, hR => by
    rw [List.nil_append, zr hR x l (hl x (.head _))]
    simp [okOp]
  | [], x, y :: F, R, hl, hF, hR => by
    rw [List.cons_append, hiL_one, cmpL_cc, cmpL_cc]
    have n : cmpL (F ++ R) [] = 0 ∨ cmpL (F ++ R) [] = 1 := by
      cases F ++ R with
      | nil => exact .inl rfl
      | cons a b => exact .inr (cmpL_cn a b)
    have m : cmpL [] (F ++ R) = 0 ∨ cmpL [] (F ++ R) = -1 := by
      cases F ++ R with
      | nil => exact .inl rfl
      | cons a b => exact .inr (cmpL_nc a b)
    have e : decide ((y :: F).take [x].length = [x]) = decide (y = x) := by simp
    rw [e]
    by_cases h : x = y
    · subst h
      rw [if_pos rfl, if_neg (by first | exact le_lim (by assumption) | omega), if_pos (by first | exact le_lim (by assumption) | omega)]
      rcases m with m | m <;> rw [m] <;> simp [okOp]
    · have hs : ¬ y = x := fun q => h q.symm
      rw [if_neg h, decide_eq_false hs]
      by_cases h2 : x < y
      · rw [if_pos h2]
        by_cases h3 : y = x + 1
        · rw [if_pos h3]
          rcases n with n | n <;> rw [n] <;> simp [okOp]
        · rw [if_neg h3, if_neg (by first | exact le_lim (by assumption) | omega)]; simp [okOp]
      · rw [if_neg h2]; simp [okOp]
  | z :: l, x, y :: F, R, hl, hF, hR => by
    have ih := inB_cons l z F R (fun q m => hl q (.tail _ m)) (fun q m => hF q (.tail _ m)) hR
    rw [List.cons_append, hiL_cons, cmpL_cc, cmpL_cc]
    by_cases h : x = y
    · subst h
      rw [if_pos rfl, if_pos rfl, ih]
      simp
    · have hs : ¬ y = x := fun q => h q.symm
      rw [if_neg h, if_neg hs]
      have e : decide ((y :: F).take (x :: z :: l).length = x :: z :: l) = false := decide_eq_false fun q => by
        rw [List.length_cons, List.take_succ_cons] at q
        injection q with q1 _
        exact h q1.symm
      rw [e]
      by_cases h2 : x < y
      · rw [if_pos h2, if_neg (by first | exact le_lim (by assumption) | omega)]; simp [okOp]
      · rw [if_neg h2]; simp [okOp]
theorem inB_ok (l F R : List Int) (hl : ∀ y ∈ l, 0 < y) (hF : ∀ y ∈ F, 0 < y) (hR : R = [] ∨ ∃ r, R = 0 :: r) : inB l (F ++ R) = decide (F.take l.length = l) := by
  unfold inB
  cases l with
  | nil =>
    have m : okOp .LtE (cmpL [] (F ++ R)) = true := by
      cases F ++ R with
      | nil => rfl
      | cons a b => rw [cmpL_nc]; rfl
    rw [m]; simp
  | cons x l =>
    rw [decide_eq_false (by simp), Bool.false_or]
    exact inB_cons l x F R hl hF hR
theorem keyOf_app (l : List Int) (r : List (List Int)) : ∃ R, keyOf (l :: r) = l ++ R ∧ (R = [] ∨ ∃ q, R = 0 :: q) := by
  refine ⟨r.flatMap (0 :: ·), rfl, ?_⟩
  cases r with
  | nil => exact .inl rfl
  | cons x r => exact .inr ⟨x ++ r.flatMap (0 :: ·), by rw [List.flatMap_cons, List.cons_append]⟩
end Mine

end
noncomputable section
set_option Elab.async false
set_option maxRecDepth 100000
set_option linter.unusedVariables false
/-! the law: what it asks -/
open PySem PySem.W
namespace Mine
section
variable {n : Nat} {sc : Sc} {ρ : Rho} {H : Hp} {a b d : D} {e e2 l r : Expr} {p np pos : Pos}
theorem X.cmp {op : CmpOp} {t : Bool} (h1 : V n sc ρ H l a) (h2 : V n sc ρ H r b) (h3 : cmp op a b H = some t) (h0 : lastMarks [op] [r] = false) : X (n + 1) sc ρ H (.Compare l [op] [r] p) (fB t) := X.s (Ecmp h0 h1 h2 h3)
theorem bvT {op : BoolOp} {t1 : Bool} (h1 : X n sc ρ H e (fB t1)) (hs : stopB op t1 = true) : X (n + 1) sc ρ H (.BoolOp op [e, e2] p) (fB t1) := by
  refine X2.s (bd h1 ?_)
  show cond (stopB op t1) _ _ = _
  rw [hs]; rfl
theorem bvF {op : BoolOp} {t1 t2 : Bool} (h1 : X n sc ρ H e (fB t1)) (hs : stopB op t1 = false) (h2 : X n sc ρ H e2 (fB t2)) : X (n + 1) sc ρ H (.BoolOp op [e, e2] p) (fB t2) := by
  refine X2.s (bd h1 ?_)
  show cond (stopB op t1) _ _ = _
  rw [hs]; exact bd h2 rfl
theorem X.and2 {t1 t2 : Bool} (h1 : X n sc ρ H e (fB t1)) (h2 : t1 = true → X n sc ρ H e2 (fB t2)) : X (n + 1) sc ρ H (.BoolOp .And [e, e2] p) (fB (t1 && t2)) := by
  cases t1 with
  | false => exact bvT h1 rfl
  | true => exact bvF h1 rfl (h2 rfl)
theorem X.or2 {t1 t2 : Bool} (h1 : X n sc ρ H e (fB t1)) (h2 : t1 = false → X n sc ρ H e2 (fB t2)) : X (n + 1) sc ρ H (.BoolOp .Or [e, e2] p) (fB (t1 || t2)) := by
  cases t1 with
  | false => exact bvF h1 rfl (h2 rfl)
  | true => exact bvT h1 rfl
theorem it_frz {x : Str} {k : Nat} {fs : List F} (h : var T sc ρ x = some (.own k)) (hk : H[k]? = some (.frz (.lst fs))) (hl : fs.length ≤ lim) (h1 : nameOk x = true) : iters (ev T (n + 1)) sc (.Name x p) ρ H = some (fs.map .f, H) := by
  show (exV (ev T (n + 1)) sc (.Name x p) ρ H).bind (fun x => itemsOf x.1 x.2) = _
  refine bd (V.nm h h1) ?_
  refine md (a := (fs, H)) ?_
  have : fz fuelFz (.own k) H = some (.lst fs, H) := by
    exact bd hk rfl
  exact bd this (md (x := limL fs) (if_pos hl))
theorem it_zip {f1 f2 : List F} (hn : (sc.lookup (Str.ofString "zip") == some .globalImplicit && !isStar l && !isStar r) = true) (h1 : X n sc ρ H l (.f (.lst f1))) (h2 : X n sc ρ H r (.f (.lst f2))) (hl1 : f1.length ≤ lim) (hl2 : f2.length ≤ lim) : iters (ev T n) sc (.Call (.Name "zip" np) [l, r] [] pos) ρ H = some (zipL (f1.map .f) (f2.map .f), H) := by
  exact (if_pos hn).trans (bd h1 (bd h2 (bd (lstOf_f hl1) (md (lstOf_f hl2)))))
theorem listC {fs : List F} (h : fs.length ≤ lim) : callT "list" [.f (.lst fs)] H = some (.lst fs) := md (f := F.lst) (x := limL fs) (if_pos h)
end
theorem zipL_F : ∀ A C : List (List Int), zipL ((A.map iF).map .f) ((C.map iF).map .f) = (A.zip C).map fun p => .f (.tup [iF p.1, iF p.2])
  | [], _ => rfl
  | _ :: _, [] => rfl
  | a :: A, c :: C => congrArg (D.f (.tup [iF a, iF c]) :: ·) (zipL_F A C)
noncomputable def hiF (L : List Int) : F := match L with
  | [] => .none
  | x :: r => iF (hiL (x :: r))
theorem pbF_eq (L : List Int) : pbF L = .tup [iF L, hiF L] := by cases L <;> rfl
theorem hiF_none (L : List Int) (H : Hp) : cmp .Is (.f (hiF L)) (.f .none) H = some (decide (L = [])) := by cases L <;> rfl
theorem hiL_len (L : List Int) : (hiL L).length ≤ L.length := by
  cases L with
  | nil => exact Nat.le_refl _
  | cons x r => unfold hiL; simp
theorem hiF_list (L : List Int) (H : Hp) (h : L ≠ []) (hl : L.length ≤ 1000) : callT "list" [.f (hiF L)] H = some (iF (hiL L)) := by
  have := hiL_len L
  cases L with
  | nil => exact absurd rfl h
  | cons x r => exact listC (by rw [List.length_map]; show (hiL (x :: r)).length ≤ 100000; omega)
/-! the levels of a text -/
section
variable (s : Int) (cf : Str) (cl nu : Bool)
theorem lev_head (t : List Int) : ∃ r, levP s cf cl nu t = (rowsP nu t).map (·.1) :: r := by
  unfold levP lvls
  simp only [List.append_assoc, List.singleton_append]
  exact ⟨_, rfl⟩
theorem lev_sum {t : List Int} (h : TxOk t) : sumL (levP s cf cl nu t) ≤ 4000 ∧ (levP s cf cl nu t).length ≤ 4 := lvls_sum (rowsP nu t) s cf cl (rowsP_900 h)
theorem lev_n (t t' : List Int) : (levP s cf cl nu t).length = (levP s cf cl nu t').length := by unfold levP; rw [lvls_mks, lvls_mks, List.length_map, List.length_map]
theorem lev_p {t : List Int} (h : TxOk t) : ∀ l ∈ levP s cf cl nu t, ∀ y ∈ l, 0 < y := lvls_pos s cf cl _ (rowsP_ok nu t h.1)
theorem lkey_of {A : List (List Int)} (n : Nat) (H : Hp) (h : A ≠ []) (hs : sumL A ≤ 20000) (hn : A.length ≤ 100) : callFn (ev T (n + 16)) f_law_key [.f (lF A)] H = some (.f (iF (keyOf A)), H) := by
  cases A with
  | nil => exact absurd rfl h
  | cons l r =>
    unfold sumL at hs
    rw [List.map_cons, List.sum_cons, List.length_cons] at hs
    rw [List.length_cons] at hn
    exact c_lkey n l r (by unfold sumL; omega) (by first | exact le_lim (by assumption) | omega) H
theorem lev_ne (t : List Int) : levP s cf cl nu t ≠ [] := by obtain ⟨r, h⟩ := lev_head s cf cl nu t; rw [h]; simp
end
noncomputable def HW (s : Int) (cf : Str) (cl nu : Bool) (cs : List Int) (m : Int) (tx : List (List Int)) : Hp := hD cs m [.frz (.lst (tx.map iF)), .frz (optF s cf cl nu)]
section
variable (n : Nat) (s : Int) (cf : Str) (cl nu : Bool) (xs cs : List Int) (m : Int) (t0 t1 t2 : List Int)
noncomputable def b6 : Rho := ("rows", .f (.lst ([t0, t1, t2].map fun t => lF (levP s cf cl nu t)))) :: b5 s cf cl nu xs (some 2)
noncomputable def b7 : Rho := ("keys", .f (lF ([t0, t1, t2].map fun t => keyOf (levP s cf cl nu t)))) :: b6 s cf cl nu xs t0 t1 t2
noncomputable def bC (i j : Nat) : Rho := ("other", fI j) :: ("one", fI i) :: b7 s cf cl nu xs t0 t1 t2
variable (hs : SOk s) (hcf : CfOk cf) (hx : ∀ t ∈ [t0, t1, t2], TxOk t)
noncomputable def mF9 : Expr × Expr × List Stmt := forPart (mSt 9)
noncomputable def mF12 : Expr × Expr × List Stmt := forPart (mSt 12)
include hs hcf hx in
theorem m_cmp (i j : Nat) (a b : List Int) (hi : [t0, t1, t2][i]? = some a) (hj : [t0, t1, t2][j]? = some b) :
    (ev T (n + 59)).st scM mF9.2.2 (bC s cf cl nu xs t0 t1 t2 i j) (HW s cf cl nu cs m [t0, t1, t2]) = some (.next, bC s cf cl nu xs t0 t1 t2 i j, HW s cf cl nu cs m [t0, t1, t2]) := by
  have ha := hx a (List.mem_of_getElem? hi)
  have hb := hx b (List.mem_of_getElem? hj)
  have tx : ∀ {k q : Nat} {v : List Int} {nm : Str} {p1 p2 p3 : Pos}, [t0, t1, t2][q]? = some v → var T scM (bC s cf cl nu xs t0 t1 t2 i j) nm = some (fI q) → nameOk nm = true → V (k + 2) scM (bC s cf cl nu xs t0 t1 t2 i j) (HW s cf cl nu cs m [t0, t1, t2]) (.Subscript (.Name "texts" p1) (.Name nm p2) p3) (tD v) := fun {k q v nm p1 p2 p3} hq h1 h2 =>
    V.of (X.idx (a := .own 2) (b := fI q) (V.nm (by kernel_rfl) (by decide)) (X.nm h1 h2) (getI_at (l := [t0, t1, t2].map tD) (by rfl) (by rw [List.getElem?_map, hq]; rfl) (Nat.le_of_ble_eq_true rfl)) (by rfl)) (by rfl)
  have rx : ∀ {k q : Nat} {v : List Int} {nm : Str} {p1 p2 p3 : Pos}, [t0, t1, t2][q]? = some v → var T scM (bC s cf cl nu xs t0 t1 t2 i j) nm = some (fI q) → nameOk nm = true → V (k + 2) scM (bC s cf cl nu xs t0 t1 t2 i j) (HW s cf cl nu cs m [t0, t1, t2]) (.Subscript (.Name "rows" p1) (.Name nm p2) p3) (.f (lF (levP s cf cl nu v))) := fun {k q v nm p1 p2 p3} hq h1 h2 =>
    V.of (X.idx (a := .f (.lst ([t0, t1, t2].map fun t => lF (levP s cf cl nu t)))) (b := fI q) (V.nm (by kernel_rfl) (by decide)) (X.nm h1 h2) (getI_at (l := ([t0, t1, t2].map fun t => lF (levP s cf cl nu t)).map .f) (by rfl) (by rw [List.getElem?_map, List.getElem?_map, hq]; rfl) (Nat.le_of_ble_eq_true rfl)) (by rfl)) (by rfl)
  show Sts (n + 58) scM (bC s cf cl nu xs t0 t1 t2 i j) (HW s cf cl nu cs m [t0, t1, t2]) mF9.2.2 _ _ _
  refine Sts.cons (H' := HW s cf cl nu cs m [t0, t1, t2]) (St1.ifF (B.cmp (a := fI (cmpW (levP s cf cl nu a) (levP s cf cl nu b))) (b := fI (cmpW (levP s cf cl nu a) (levP s cf cl nu b))) (V.of ?_ (by rfl)) (V.of ?_ (by rfl)) (by rw [neI]; simp) (by rfl)) (by rfl)) Sts.nil
  · exact X2.s (Ecall (f := f_compare) (ad := 328) (ds := [tD a, tD b, .f datF, .f tblF, .own 3]) (H1 := HW s cf cl nu cs m [t0, t1, t2]) (by kernel_rfl) (by kernel_rfl) (xp (by rfl) (tx hi (by kernel_rfl) (by decide)) (xp (by rfl) (tx hj (by kernel_rfl) (by decide)) (by kernel_rfl))) (Ffz rfl rfl (fs := [iF a, iF b, datF, tblF, optF s cf cl nu]) (by kernel_rfl) (c_compare n a b ha hb s cf cl nu _ hcf hs)))
  · exact X2.s (Ecall (f := f_law_sign) (ad := 705) (ds := [.f (lF (levP s cf cl nu a)), .f (lF (levP s cf cl nu b))]) (H1 := HW s cf cl nu cs m [t0, t1, t2]) (by kernel_rfl) (by kernel_rfl) (xp (by rfl) (rx hi (by kernel_rfl) (by decide)) (xp (by rfl) (rx hj (by kernel_rfl) (by decide)) xvN)) (c_sign (n + 48) (levP s cf cl nu a) (levP s cf cl nu b) (lev_n s cf cl nu a b) _))
noncomputable def b11 (L : List Int) : Rho := ("begin", .f (iF L)) :: ("high", .f (hiF L)) :: ("low", .f (iF L)) :: bC s cf cl nu xs t0 t1 t2 0 0
noncomputable def bK1 (L : List Int) (i : Nat) : Option Bool → Rho
  | none => ("k", fI i) :: b11 s cf cl nu xs t0 t1 t2 L
  | some w => ("k", fI i) :: ("is_within", fB w) :: b11 s cf cl nu xs t0 t1 t2 L
noncomputable def bK2 (L : List Int) (i : Nat) (w : Bool) : Rho := ("is_within", fB w) :: ("k", fI i) :: b11 s cf cl nu xs t0 t1 t2 L
include hx in
theorem m_in (L : List Int) (hL : ∀ y ∈ L, 0 < y) (hLl : L.length ≤ 900) (i : Nat) (o : Option Bool) (a : List Int) (hi : [t0, t1, t2][i]? = some a) :
    ∃ w, (ev T (n + 59)).st scM mF12.2.2 (bK1 s cf cl nu xs t0 t1 t2 L i o) (HW s cf cl nu cs m [t0, t1, t2]) = some (.next, bK2 s cf cl nu xs t0 t1 t2 L i w, HW s cf cl nu cs m [t0, t1, t2]) := by
  have hlim : lim = 100000 := rfl
  have ha := hx a (List.mem_of_getElem? hi)
  obtain ⟨r, hr⟩ := lev_head s cf cl nu a
  have hsum := lev_sum s cf cl nu ha
  have hpos := lev_p s cf cl nu ha
  have hkl := key_len (levP s cf cl nu a)
  generalize hF : (rowsP nu a).map (·.1) = Fi at hr
  have hFp : ∀ y ∈ Fi, 0 < y := hpos Fi (by rw [hr]; exact .head _)
  have hFl : Fi.length ≤ 4000 := Nat.le_trans (mem_len (by rw [hr]; exact .head _)) hsum.1
  obtain ⟨R, hk, hR⟩ := keyOf_app Fi r
  rw [← hr] at hk
  have hw := inB_ok L Fi R hL hFp hR
  rw [← hk] at hw
  refine ⟨decide (Fi.take L.length = L), ?_⟩
  generalize hb : keyOf (levP s cf cl nu a) = K at *
  have kx : ∀ {k : Nat} {ρ : Rho} {p1 p2 p3 : Pos}, var T scM ρ "keys" = some (.f (lF ([t0, t1, t2].map fun t => keyOf (levP s cf cl nu t)))) → var T scM ρ "k" = some (fI i) → V (k + 2) scM ρ (HW s cf cl nu cs m [t0, t1, t2]) (.Subscript (.Name "keys" p1) (.Name "k" p2) p3) (.f (iF K)) := fun {k ρ p1 p2 p3} h1 h2 =>
    V.of (X.idx (b := fI i) (V.nm h1 (by decide)) (X.nm h2 (by decide)) (getI_at (l := (([t0, t1, t2].map fun t => keyOf (levP s cf cl nu t)).map iF).map .f) (by rfl) (by rw [List.getElem?_map, List.getElem?_map, List.getElem?_map, hi]; show some (D.f (iF (keyOf (levP s cf cl nu a)))) = _; rw [hb]) (Nat.le_of_ble_eq_true rfl)) (by rfl)) (by rfl)
  show Sts (n + 58) scM (bK1 s cf cl nu xs t0 t1 t2 L i o) (HW s cf cl nu cs m [t0, t1, t2]) mF12.2.2 _ _ _
  refine Sts.cons (ρ' := bK2 s cf cl nu xs t0 t1 t2 L i (decide (Fi.take L.length = L))) (H' := HW s cf cl nu cs m [t0, t1, t2]) (St1.asg (d := fB (decide (Fi.take L.length = L))) ?_ (by cases o <;> kernel_rfl) (by rfl) (by rfl)) (Sts.cons (ρ' := bK2 s cf cl nu xs t0 t1 t2 L i (decide (Fi.take L.length = L))) (H' := HW s cf cl nu cs m [t0, t1, t2]) (St1.ifF (B.orF ?_ ?_) (by rfl)) Sts.nil)
  · rw [← hw]
    refine X.and2 (X.cmp (a := .f (iF L)) (b := .f (iF K)) (V.of (X2.s (EcallT (bn := "list") (ds := [.f (iF L)]) (H1 := HW s cf cl nu cs m [t0, t1, t2]) (by kernel_rfl) (xp (by rfl) (V.nm (by cases o <;> kernel_rfl) (by decide)) xvN) (listC (by first | exact lmap (by assumption) | (rw [List.length_map]; omega))))) (by rfl)) (kx (by cases o <;> kernel_rfl) (by cases o <;> kernel_rfl)) (ordL .LtE (.inr rfl) L K _) (by rfl)) fun _ => ?_
    refine X.or2 (X.cmp (a := .f (hiF L)) (b := .f .none) (V.nm (by cases o <;> kernel_rfl) (by decide)) (by kernel_rfl) (hiF_none L _) (by rfl)) fun hne => ?_
    exact X.cmp (a := .f (iF K)) (b := .f (iF (hiL L))) (kx (by cases o <;> kernel_rfl) (by cases o <;> kernel_rfl)) (V.of (X2.s (EcallT (bn := "list") (ds := [.f (hiF L)]) (H1 := HW s cf cl nu cs m [t0, t1, t2]) (by kernel_rfl) (xp (by rfl) (V.nm (by cases o <;> kernel_rfl) (by decide)) xvN) (hiF_list L _ (of_decide_eq_false hne) (by first | exact le_lim (by assumption) | omega)))) (by rfl)) (ordL .Lt (.inl rfl) K (hiL L) _) (by rfl)
  · refine B.cmp (a := fB (decide (Fi.take L.length = L))) (b := fB (decide (Fi.take L.length = L))) (V.nm (by kernel_rfl) (by decide)) (V.of (X.cmp (a := .f (iF (Fi.take L.length))) (b := .f (iF L)) (V.of ?_ (by rfl)) (V.nm (by kernel_rfl) (by decide)) (eqL _ _ _) (by rfl)) (by rfl)) (neB2 _ _) (by rfl)
    rw [show iF (Fi.take L.length) = .lst (sliceL none (some (L.length : Int)) (Fi.map F.int)) by rw [slice_pre, ← List.map_take]]
    refine X.slice (a := .f (iF Fi)) (x := .f .none) (y := fI L.length) (V.of (X.idx (a := .f (lF (levP s cf cl nu a))) (b := fI 0) (V.of (X.idx (a := .f (.lst ([t0, t1, t2].map fun t => lF (levP s cf cl nu t)))) (b := fI i) (V.nm (by kernel_rfl) (by decide)) (X.nm (by kernel_rfl) (by decide)) (getI_at (l := ([t0, t1, t2].map fun t => lF (levP s cf cl nu t)).map .f) (by rfl) (by rw [List.getElem?_map, List.getElem?_map, hi]; rfl) (Nat.le_of_ble_eq_true rfl)) (by rfl)) (by rfl)) (by kernel_rfl) (getI_at (i := 0) (l := ((levP s cf cl nu a).map iF).map .f) (by rfl) (by rw [hr]; rfl) (by rw [List.length_map, List.length_map]; omega)) (by rfl)) (by rfl)) rfl ?_ rfl (by first | exact lmap (by assumption) | (rw [List.length_map]; omega)) rfl rfl
    exact X.len (m := L.length) (by kernel_rfl) (V.nm (d := .f (iF L)) (by kernel_rfl) (by decide)) (iF_lst L _) (List.length_map ..) (by first | exact le_lim (by assumption) | omega) (by rfl)
  · exact B.cmp (a := fB (decide (L = []))) (b := fB (decide (L = []))) (V.of (X.cmp (a := .f (hiF L)) (b := .f .none) (V.nm (by kernel_rfl) (by decide)) (by kernel_rfl) (hiF_none L _) (by rfl)) (by rfl)) (V.of (X.cmp (a := .f (iF L)) (b := .f (.lst [])) (V.nm (by kernel_rfl) (by decide)) (by kernel_rfl) eqNil (by rfl)) (by rfl)) (neB2 _ _) (by rfl)
end
end Mine

end
noncomputable section
set_option Elab.async false
set_option maxRecDepth 100000
set_option linter.unusedVariables false
/-! the law's value -/
open PySem PySem.W
namespace Mine
section
variable (s : Int) (cf : Str) (cl nu : Bool)
theorem lev_sum2 {t : List Int} (h : TxOk t) : sumL (levP s cf cl nu t) ≤ 1204 := by
  have hl := rowsP_len nu t
  have h2 := h.2
  have : ∀ es : List Row, sumL (lvls s cf cl es) ≤ 4 * es.length + 4 := fun es => by
    unfold sumL lvls
    by_cases h2 : 2 ≤ s <;> by_cases h3 : 3 ≤ s <;> cases cl <;> simp [h2, h3] <;> omega
  have := this (rowsP nu t)
  unfold levP
  omega
theorem split_lev {t : List Int} (h : TxOk t) : splitZ [] (keyOf (levP s cf cl nu t)) = levP s cf cl nu t ∧ zeros (keyOf (levP s cf cl nu t)) + 1 = (levP s cf cl nu t).length := by
  obtain ⟨r, hr⟩ := lev_head s cf cl nu t
  have hp := lev_p s cf cl nu h
  rw [hr] at hp ⊢
  have hz : ∀ x ∈ (rowsP nu t).map (·.1) :: r, ∀ y ∈ x, y ≠ 0 := fun x hx y hy => by have := hp x hx y hy; omega
  exact ⟨splitZ_key _ r hz, by rw [zeros_key _ r hz, List.length_cons]⟩
theorem merge_ne {a b : List Int} : mergeL (levP s cf cl nu a) (levP s cf cl nu b) ≠ [] := by
  obtain ⟨r, hr⟩ := lev_head s cf cl nu a
  obtain ⟨r', hr'⟩ := lev_head s cf cl nu b
  rw [hr, hr']
  intro h; cases h
theorem zip_mem {A C : List (List Int)} {p : List Int × List Int} (h : p ∈ A.zip C) : p.1.length ≤ sumL A ∧ p.2.length ≤ sumL C := ⟨mem_len (List.of_mem_zip (show (p.1, p.2) ∈ A.zip C from h)).1, mem_len (List.of_mem_zip (show (p.1, p.2) ∈ A.zip C from h)).2⟩
end
section
variable (n : Nat) (s : Int) (cf : Str) (cl nu : Bool) (xs cs : List Int) (m : Int) (t0 t1 t2 : List Int)
variable (hs : SOk s) (hcf : CfOk cf) (hx : ∀ t ∈ [t0, t1, t2], TxOk t)
noncomputable def HB : Hp := hD cs m [.frz (.lst ([t0, t1, t2].map iF)), optO s cf cl nu]
noncomputable def skComp : Expr × List Comprehension × Scope := listComp (match mSt 7 with | .Assign _ v _ => v | _ => default)
noncomputable def rS (t : List Int) : Rho := [("text", tD t), ("options", .own 3), ("data", .f datF), ("table", .f tblF)]
include hs hcf
theorem m_key (t : List Int) (ht : TxOk t) (H : Hp) (hz : fzs (fz fuelFz) [tD t, .f datF, .f tblF, .own 3] H = some ([iF t, datF, tblF, optF s cf cl nu], HW s cf cl nu cs m [t0, t1, t2])) :
    (ev T (n + 59)).ex skComp.2.2.names skComp.1 (rS t) H = some (.f (iF (keyOf (levP s cf cl nu t))), HW s cf cl nu cs m [t0, t1, t2]) := by
  have hlim : lim = 100000 := rfl
  have h1 := key_len (levP s cf cl nu t)
  have h2 := lev_sum2 s cf cl nu ht
  exact X2.s (EcallT (bn := "list") (ds := [.f (iF (keyOf (levP s cf cl nu t)))]) (H1 := HW s cf cl nu cs m [t0, t1, t2]) (by kernel_rfl) (xvC (by rfl) (xV (by rfl) (X2.s (Ecall (f := f_sort_key) (ad := 307) (ds := [tD t, .f datF, .f tblF, .own 3]) (H1 := H) (by kernel_rfl) (by kernel_rfl) (by kernel_rfl) (Ffz rfl rfl hz (c_sortkey (n + 1) t ht s cf cl nu _ hcf hs))))) xvN) (listC (by first | exact lmap (by assumption) | (rw [List.length_map]; omega))))
include hx
theorem law_b : ∃ ρ' H', Sts (n + 59) scM (b5 s cf cl nu xs (some 2)) (hD cs m [.lst ([t0, t1, t2].map tD), optO s cf cl nu]) ((fnT 93).2.1.drop 6) (.ret (fB true)) ρ' H' := by
  have hlim : lim = 100000 := rfl
  have hx0 := hx t0 (.head _)
  have hx1 := hx t1 (.tail _ (.head _))
  have hx2 := hx t2 (.tail _ (.tail _ (.head _)))
  obtain ⟨r2, hr2⟩ := lev_head s cf cl nu t2
  have hp2 := lev_p s cf cl nu hx2
  have hn2 := (lev_sum s cf cl nu hx2).2
  have hcb := c_bounds (n + 2) t2 hx2 s cf cl nu (HW s cf cl nu cs m [t0, t1, t2])
  have hll : ((rowsP nu t2).map (·.1)).length ≤ 900 := by rw [List.length_map]; exact rowsP_900 hx2
  generalize (rowsP nu t2).map (·.1) = L at hr2 hcb hll
  have hLp : ∀ y ∈ L, 0 < y := hp2 L (by rw [hr2]; exact .head _)
  rw [pbF_eq] at hcb
  obtain ⟨w0, i0⟩ := m_in n s cf cl nu xs cs m t0 t1 t2 hx L hLp hll 0 none t0 rfl
  obtain ⟨w1, i1⟩ := m_in n s cf cl nu xs cs m t0 t1 t2 hx L hLp hll 1 (some w0) t1 rfl
  obtain ⟨w2, i2⟩ := m_in n s cf cl nu xs cs m t0 t1 t2 hx L hLp hll 2 (some w1) t2 rfl
  have m1 := m_cmp n s cf cl nu xs cs m t0 t1 t2 hs hcf hx 0 1 t0 t1 rfl rfl
  have m2 := m_cmp n s cf cl nu xs cs m t0 t1 t2 hs hcf hx 1 0 t1 t0 rfl rfl
  have m3 := m_cmp n s cf cl nu xs cs m t0 t1 t2 hs hcf hx 2 1 t2 t1 rfl rfl
  have m4 := m_cmp n s cf cl nu xs cs m t0 t1 t2 hs hcf hx 0 0 t0 t0 rfl rfl
  obtain ⟨sp0, z0⟩ := split_lev s cf cl nu hx0
  obtain ⟨sp1, z1⟩ := split_lev s cf cl nu hx1
  have kl0 := key_len (levP s cf cl nu t0)
  have kl1 := key_len (levP s cf cl nu t1)
  have su0 := lev_sum2 s cf cl nu hx0
  have su1 := lev_sum2 s cf cl nu hx1
  have ln0 := (lev_sum s cf cl nu hx0).2
  have ln1 := (lev_sum s cf cl nu hx1).2
  have ln := lev_n s cf cl nu t0 t1
  have cm := c_merged (n + 31) (keyOf (levP s cf cl nu t0)) (keyOf (levP s cf cl nu t1)) (by first | exact le_lim (by assumption) | omega) (by first | exact le_lim (by assumption) | omega) (by first | exact le_lim (by assumption) | omega) (by first | exact le_lim (by assumption) | omega) (HW s cf cl nu cs m [t0, t1, t2])
  rw [sp0, sp1] at cm
  have ms := mergeL_sum (levP s cf cl nu t0) (levP s cf cl nu t1)
  have mn := mergeL_n (levP s cf cl nu t0) (levP s cf cl nu t1)
  have mk := key_len (mergeL (levP s cf cl nu t0) (levP s cf cl nu t1))
  have mne := merge_ne s cf cl nu (a := t0) (b := t1)
  have mz := mergeL_zip (levP s cf cl nu t0) (levP s cf cl nu t1)
  refine ⟨("both", .f (lF (mergeL (levP s cf cl nu t0) (levP s cf cl nu t1)))) :: bK2 s cf cl nu xs t0 t1 t2 L 2 w2, HW s cf cl nu cs m [t0, t1, t2], ?_⟩
  -- the levels
  refine Sts.cons (ρ' := b6 s cf cl nu xs t0 t1 t2) (H' := HB s cf cl nu cs m t0 t1 t2) (St1.asgC (d := .f (.lst ([t0, t1, t2].map fun t => lF (levP s cf cl nu t)))) (Ecomp (ds := ([t0, t1, t2].map iF).map .f) (fs := [t0, t1, t2].map fun t => lF (levP s cf cl nu t)) (H1 := HB s cf cl nu cs m t0 t1 t2) (by kernel_rfl) (it_own (k := 2) (fs := [t0, t1, t2].map iF) (by kernel_rfl) (by rfl) (Nat.le_of_ble_eq_true rfl) (by decide)) (Nat.le_of_ble_eq_true rfl) ?_) (by kernel_rfl) (by rfl)) ?_
  · exact comp_map (fun t : List Int => tD t) (fun t => lF (levP s cf cl nu t)) TxOk (fun t ht => ⟨[("text", tD t), ("ways", .f (waysF s cf cl nu))], .f (lF (levP s cf cl nu t)), by kernel_rfl, X2.s (Ecall (f := f_law_levels) (ad := 691) (ds := [tD t, .f (waysF s cf cl nu)]) (H1 := HB s cf cl nu cs m t0 t1 t2) (by kernel_rfl) (by kernel_rfl) (by kernel_rfl) (c_llevels (n + 36) t ht s cf cl nu hcf hs _)), rfl⟩) [t0, t1, t2] hx
  -- the keys
  refine Sts.cons (ρ' := b7 s cf cl nu xs t0 t1 t2) (H' := HW s cf cl nu cs m [t0, t1, t2]) (St1.asgC (d := .f (lF ([t0, t1, t2].map fun t => keyOf (levP s cf cl nu t)))) (Ecomp (ds := [tD t0, tD t1, tD t2]) (fs := [iF (keyOf (levP s cf cl nu t0)), iF (keyOf (levP s cf cl nu t1)), iF (keyOf (levP s cf cl nu t2))]) (H1 := HB s cf cl nu cs m t0 t1 t2) (by kernel_rfl) (it_frz (k := 2) (fs := [t0, t1, t2].map iF) (by kernel_rfl) (by rfl) (Nat.le_of_ble_eq_true rfl) (by decide)) (Nat.le_of_ble_eq_true rfl) ?_) (by kernel_rfl) (by rfl)) ?_
  · exact compC (ρ' := rS t0) (by kernel_rfl) (m_key n s cf cl nu cs m t0 t1 t2 hs hcf t0 hx0 _ (by kernel_rfl)) rfl (compC (ρ' := rS t1) (by kernel_rfl) (m_key n s cf cl nu cs m t0 t1 t2 hs hcf t1 hx1 _ (by kernel_rfl)) rfl (compC (ρ' := rS t2) (by kernel_rfl) (m_key n s cf cl nu cs m t0 t1 t2 hs hcf t2 hx2 _ (by kernel_rfl)) rfl rfl))
  -- the keys are the law's
  refine Sts.cons (ρ' := b7 s cf cl nu xs t0 t1 t2) (H' := HW s cf cl nu cs m [t0, t1, t2]) (St1.ifF (B.cmp (a := .f (lF ([t0, t1, t2].map fun t => keyOf (levP s cf cl nu t)))) (b := .f (lF ([t0, t1, t2].map fun t => keyOf (levP s cf cl nu t)))) (V.nm (by kernel_rfl) (by decide)) (V.of (X.comp (Ecomp (ds := ([t0, t1, t2].map fun t => lF (levP s cf cl nu t)).map .f) (fs := ([t0, t1, t2].map fun t => keyOf (levP s cf cl nu t)).map iF) (H1 := HW s cf cl nu cs m [t0, t1, t2]) (by kernel_rfl) (it_nm (by kernel_rfl) (Nat.le_of_ble_eq_true rfl) (by decide)) (Nat.le_of_ble_eq_true rfl) ?_)) (by rfl)) (neSelf _ _ (by simp)) (by rfl)) (by rfl)) ?_
  · exact comp_map (fun t : List Int => .f (lF (levP s cf cl nu t))) (fun t => iF (keyOf (levP s cf cl nu t))) TxOk (fun t ht => ⟨[("levels", .f (lF (levP s cf cl nu t)))], .f (iF (keyOf (levP s cf cl nu t))), by kernel_rfl, X2.s (Ecall (f := f_law_key) (ad := 698) (ds := [.f (lF (levP s cf cl nu t))]) (H1 := HW s cf cl nu cs m [t0, t1, t2]) (by kernel_rfl) (by kernel_rfl) (by kernel_rfl) (lkey_of (n + 40) _ (lev_ne s cf cl nu t) (by have := lev_sum2 s cf cl nu ht; omega) (by have := (lev_sum s cf cl nu ht).2; omega))), rfl⟩) [t0, t1, t2] hx
  -- comparing
  refine Sts.cons (ρ' := bC s cf cl nu xs t0 t1 t2 0 0) (H' := HW s cf cl nu cs m [t0, t1, t2]) (Sfor (ds := [.f (.tup [.int 0, .int 1]), .f (.tup [.int 1, .int 0]), .f (.tup [.int 2, .int 1]), .f (.tup [.int 0, .int 0])]) (H1 := HW s cf cl nu cs m [t0, t1, t2]) (by kernel_rfl) (by kernel_rfl) (FC (ρ1 := bC s cf cl nu xs t0 t1 t2 0 1) (by kernel_rfl) m1 (FC (ρ1 := bC s cf cl nu xs t0 t1 t2 1 0) (by kernel_rfl) m2 (FC (ρ1 := bC s cf cl nu xs t0 t1 t2 2 1) (by kernel_rfl) m3 (FC (ρ1 := bC s cf cl nu xs t0 t1 t2 0 0) (by kernel_rfl) m4 FN))))) ?_
  -- the bounds
  refine Sts.cons (ρ' := ("high", .f (hiF L)) :: ("low", .f (iF L)) :: bC s cf cl nu xs t0 t1 t2 0 0) (H' := HW s cf cl nu cs m [t0, t1, t2]) (St1.asgT (d := .f (.tup [iF L, hiF L])) (X2.s (Ecall (f := f_prefix_bounds) (ad := 364) (ds := [tD t2, .f datF, .f tblF, .own 3]) (H1 := HW s cf cl nu cs m [t0, t1, t2]) (by kernel_rfl) (by kernel_rfl) (by kernel_rfl) (Ffz rfl rfl (fs := [iF t2, datF, tblF, optF s cf cl nu]) (by kernel_rfl) hcb))) (by kernel_rfl) (by kernel_rfl) (by rfl)) ?_
  refine Sts.cons (ρ' := b11 s cf cl nu xs t0 t1 t2 L) (H' := HW s cf cl nu cs m [t0, t1, t2]) (St1.asg (d := .f (iF L)) (X.idx (a := .f (lF (levP s cf cl nu t2))) (b := fI 0) (by kernel_rfl) (by kernel_rfl) (getI_at (i := 0) (l := ((levP s cf cl nu t2).map iF).map .f) (by rfl) (by rw [hr2]; rfl) (by rw [List.length_map, List.length_map]; omega)) (by rfl)) (by kernel_rfl) (by rfl) (by rfl)) ?_
  refine Sts.cons (ρ' := bK2 s cf cl nu xs t0 t1 t2 L 2 w2) (H' := HW s cf cl nu cs m [t0, t1, t2]) (Sfor (ds := [fI 0, fI 1, fI 2]) (H1 := HW s cf cl nu cs m [t0, t1, t2]) (by kernel_rfl) (by kernel_rfl) (FC (ρ1 := bK1 s cf cl nu xs t0 t1 t2 L 0 none) (by kernel_rfl) i0 (FC (ρ1 := bK1 s cf cl nu xs t0 t1 t2 L 1 (some w0)) (by kernel_rfl) i1 (FC (ρ1 := bK1 s cf cl nu xs t0 t1 t2 L 2 (some w1)) (by kernel_rfl) i2 FN)))) ?_
  -- merging
  refine Sts.cons (ρ' := ("both", .f (lF (mergeL (levP s cf cl nu t0) (levP s cf cl nu t1)))) :: bK2 s cf cl nu xs t0 t1 t2 L 2 w2) (H' := HW s cf cl nu cs m [t0, t1, t2]) (St1.asgC (d := .f (lF (mergeL (levP s cf cl nu t0) (levP s cf cl nu t1)))) (Ecomp (ds := ((levP s cf cl nu t0).zip (levP s cf cl nu t1)).map fun p => .f (.tup [iF p.1, iF p.2])) (fs := (mergeL (levP s cf cl nu t0) (levP s cf cl nu t1)).map iF) (H1 := HW s cf cl nu cs m [t0, t1, t2]) (by kernel_rfl) ?_ (by rw [List.length_map, List.length_zip]; omega) ?_) (by kernel_rfl) (by rfl)) ?_
  · exact (it_zip (f1 := (levP s cf cl nu t0).map iF) (f2 := (levP s cf cl nu t1).map iF) (by kernel_rfl) (by kernel_rfl) (by kernel_rfl) (by first | exact lmap (by assumption) | (rw [List.length_map]; omega)) (by first | exact lmap (by assumption) | (rw [List.length_map]; omega))).trans (by rw [zipL_F])
  · rw [mz, List.map_map]
    refine comp_map (fun p : List Int × List Int => .f (.tup [iF p.1, iF p.2])) (fun p => iF (p.1 ++ [1] ++ p.2)) (fun p => p.1.length ≤ 1204 ∧ p.2.length ≤ 1204) (fun p hp => ⟨[("far", .f (iF p.2)), ("near", .f (iF p.1))], .f (iF (p.1 ++ [1] ++ p.2)), by kernel_rfl, ?_, rfl⟩) _ (fun p hp => by have := zip_mem hp; omega)
    exact X.bin (a := .f (iF (p.1 ++ [1]))) (b := .f (iF p.2)) (V.of (X.bin (a := .f (iF p.1)) (b := .f (iF [1])) (V.nm (by kernel_rfl) (by decide)) (V.lst (by rfl) (by kernel_rfl)) (isKL.add (.inl rfl) (by rw [List.length_singleton]; omega))) (by rfl)) (V.nm (by kernel_rfl) (by decide)) (isKL.add (.inl rfl) (by rw [List.length_append, List.length_singleton]; omega))
  -- the end
  have e : fB true = fB (decide (keyOf (mergeL (levP s cf cl nu t0) (levP s cf cl nu t1)) = keyOf (mergeL (levP s cf cl nu t0) (levP s cf cl nu t1))) && decide (([] : List Int) = [])) := by simp
  rw [e]
  refine Sts.ret (Sreturn (xV (by rfl) (X.and2 (X.cmp (a := .f (iF (keyOf (mergeL (levP s cf cl nu t0) (levP s cf cl nu t1))))) (b := .f (iF (keyOf (mergeL (levP s cf cl nu t0) (levP s cf cl nu t1))))) (V.of (X2.s (EcallT (bn := "list") (ds := [.f (iF (keyOf (mergeL (levP s cf cl nu t0) (levP s cf cl nu t1))))]) (H1 := HW s cf cl nu cs m [t0, t1, t2]) (by kernel_rfl) (xp (by rfl) (V.of (X2.s (Ecall (f := f_merged_keys) (ad := 357) (ds := [.f (.lst [iF (keyOf (levP s cf cl nu t0)), iF (keyOf (levP s cf cl nu t1))])]) (H1 := HW s cf cl nu cs m [t0, t1, t2]) (by kernel_rfl) (by kernel_rfl) (by kernel_rfl) cm)) (by rfl)) xvN) (listC (by first | exact lmap (by assumption) | (rw [List.length_map]; omega))))) (by rfl)) (V.of (X2.s (Ecall (f := f_law_key) (ad := 698) (ds := [.f (lF (mergeL (levP s cf cl nu t0) (levP s cf cl nu t1)))]) (H1 := HW s cf cl nu cs m [t0, t1, t2]) (by kernel_rfl) (by kernel_rfl) (by kernel_rfl) (lkey_of (n + 40) _ mne (by first | exact le_lim (by assumption) | omega) (by first | exact le_lim (by assumption) | omega)))) (by rfl)) (eqL _ _ _) (by rfl)) fun _ => ?_)))
  exact X.cmp (a := .f (iF [])) (b := .f (.lst [])) (V.of (X2.s (EcallT (bn := "list") (ds := [.f (iF [])]) (H1 := HW s cf cl nu cs m [t0, t1, t2]) (by kernel_rfl) (xp (by rfl) (V.of (X2.s (Ecall (f := f_merged_keys) (ad := 357) (ds := [.f (.lst [])]) (H1 := HW s cf cl nu cs m [t0, t1, t2]) (by kernel_rfl) (by kernel_rfl) (by kernel_rfl) (c_merged0 (n + 35) _))) (by rfl)) xvN) (listC (Nat.zero_le _)))) (by rfl)) (by kernel_rfl) eqNil (by rfl)
end
theorem law_val (xs : List Int) (hl : xs.length ≤ 63) : callFn (ev T 60) f_law [.f (iF xs)] [] = some (.f (.bool true), []) := by
  obtain ⟨s, cf, cl, nu, cs, m, tx, hs, hcf, h3, hx, ha⟩ := law_a 0 xs hl
  match tx, h3 with
  | [t0, t1, t2], _ =>
    obtain ⟨ρ', H', hb⟩ := law_b 0 s cf cl nu xs cs m t0 t1 t2 hs hcf hx
    refine Fp (n := 59) rfl rfl (fs := [iF xs]) rfl (ρ := [("script", .f (iF xs))]) rfl (d := fB true) (H2 := H') ⟨ρ', ?_⟩ rfl
    have := Sts.app ha hb
    rw [List.take_append_drop] at this
    exact this
end Mine

end
open PySem PySem.W PyProof.Rows in
theorem Mine.lawVal : Mine.LawVal := fun xs h => Mine.law_val xs h
theorem PySem.Challenge.cw_on0382_01_holds : PySem.Challenge.rw_on0382_01.Holds :=
  Mine.head0 (Mine.walk0 Mine.lawVal Mine.sort_all)
