import PyProof.Rows.All
import Wide.All
import OpenK.AllK
import Wide.FinOn
import Lean
import PySem.Challenge.RW_on0276_01
set_option Elab.async false
set_option maxRecDepth 100000
set_option maxHeartbeats 4000000
set_option linter.all false
namespace Mine
local macro_rules | `(tactic| walk_at $s:str) => do
  let k := Lean.Syntax.mkStrLit ("my " ++ s.getString)
  `(tactic| k_extra $k)
local macro_rules | `(tactic| k_enter) => `(tactic| k_extra "my k_enter")
local macro_rules | `(tactic| k_room) => `(tactic| k_extra "my k_room")
local macro_rules | `(tactic| k_handed) => `(tactic| k_extra "my k_handed")
local macro_rules | `(tactic| k_all) => `(tactic| k_extra "my k_all")
local macro_rules | `(tactic| k_mem) => `(tactic| k_extra "my k_mem")
local macro_rules | `(tactic| mul_fits) => `(tactic| k_extra "my mul_fits")
/-- a proof whose inner block is elaborated apart -/
def Wit {P : Prop} (_ : P) : Prop := P
theorem Wit.get {P : Prop} {h : P} : Wit h := h
theorem wit {P : Prop} {h : P} (k : Wit h) : P := k
section
open PySem PySem.W PyProof.Rows
/-- the text's statements, and a place among them -/
noncomputable abbrev Bd : List Stmt := PySem.Challenge.pw_on0276_01.main.body
noncomputable abbrev nth : List Stmt → Nat → Stmt
  | [], _ => .Pass default
  | s :: _, 0 => s
  | _ :: r, n + 1 => nth r n
noncomputable abbrev inC : Stmt → List Stmt
  | .ClassDef _ _ _ b _ _ _ _ _ _ _ => b
  | _ => []
/-- the function object that a def's statement leaves -/
noncomputable abbrev fD (s : Stmt) (qual : Str) (dV kV doc pm : Value) (an : Option Addr) (cdv ct : Value) : FuncData :=
  match s with
  | .FunctionDef name params body _ _ _ scope _ _ _ => fnOf name qual params body scope dV kV doc pm an cdv ct
  | _ => default
noncomputable abbrev en (P : Params) (k : String) (t : Nat) (v : Value) : DictEntry := ⟨PyData.keyHash P (Str.ofString k), .str (Str.ofString k) t, v⟩
/-- the part of the heap behind the top that the law's call reads -/
noncomputable def Kp : Params → Frag := fun P =>
  (nat_lit 2, ⟨.none, none, (.dict #[en P "type.__subclasses__.Exception.0" 234 (.int (39) 0), en P "type.__subclasses__.Exception.n" 235 (.int (1) 0)] 2), #[]⟩) ::
  (nat_lit 3, ⟨(.type "dict"), none, (.dict (List.toArray (en P "__name__" 165 (.str (Str.ofString "law_on0276_01") 1244) :: en P "__doc__" 166 .none :: en P "__package__" 167 .none :: en P "__loader__" 168 (.builtin "__main__.__loader__#opaque") :: en P "__spec__" 169 .none :: en P "__annotations__" 170 (.ref 6) :: en P "__builtins__" 171 (.ref 4) :: en P "__file__" 173 (.str (Str.ofString "/claim/cut.py") 172) :: en P "__cached__" 174 .none :: en P "_wall" 193 (.ref 21) :: en P "GRAIN" 197 (.int (1000000) 196) :: en P "LEAST_INT" 202 (.int (-2147483648) 201) :: en P "MOST_INT" 208 (.int (2147483647) 207) :: en P "PostError" 237 (.ref 39) :: en P "PsError" 253 (.ref 52) :: en P "INTEGER" 257 (.str (Str.ofString "integer") 256) :: en P "REAL" 259 (.str (Str.ofString "real") 258) :: en P "MOST_REAL" 264 (.int (1000000000000000000000) 263) :: en P "divided" 275 (.ref 61) :: en P "is_integer_size" 282 (.ref 68) :: en P "checked_real" 289 (.ref 75) :: en P "real_of" 296 (.ref 82) :: en P "millionths_of" 303 (.ref 89) :: en P "whole_number" 310 (.ref 96) :: en P "added" 318 (.ref 103) :: en P "subtracted" 326 (.ref 110) :: en P "multiplied" 334 (.ref 117) :: en P "quotient" 343 (.ref 124) :: en P "int_quotient" 352 (.ref 131) :: en P "int_rest" 361 (.ref 138) :: en P "negated" 368 (.ref 145) :: en P "absolute" 375 (.ref 152) :: en P "floor_of" 382 (.ref 159) :: en P "ceiling" 389 (.ref 166) :: en P "rounded" 396 (.ref 173) :: en P "truncated" 404 (.ref 180) :: en P "READ_ONLY" 408 (.int (2) 407) :: en P "UNLIMITED" 410 (.int (3) 409) :: en P "Thing" 445 (.ref 198) :: en P "integer" 452 (.ref 209) :: en P "real" 459 (.ref 216) :: en P "boolean" 466 (.ref 223) :: en P "is_number" 473 (.ref 230) :: en P "in_millionths" 480 (.ref 237) :: en P "is_in_array" 487 (.ref 244) :: en P "access_of" 494 (.ref 251) :: en P "can_read" 501 (.ref 258) :: en P "octets_of_span" 508 (.ref 265) :: en P "thing_octets" 515 (.ref 272) :: en P "key_of" 522 (.ref 279) :: en P "equal_things" 530 (.ref 286) :: en P "less_than" 538 (.ref 293) :: en P "NUMBER_KINDS" 543 (.ref 294) :: en P "Stack" 667 (.ref 396) :: en P "need" 675 (.ref 407) :: en P "stack_pop_kind" 683 (.ref 414) :: en P "pop_any" 690 (.ref 421) :: en P "pop_integer" 697 (.ref 428) :: en P "pop_number" 704 (.ref 435) :: en P "mathops_push" 714 (.ref 442) :: en P "mathops_one" 722 (.ref 449) :: en P "mathops_two" 731 (.ref 456) :: en P "mathops_integers" 739 (.ref 463) :: en P "op_add" 748 (.ref 470) :: en P "op_sub" 757 (.ref 477) :: en P "op_mul" 766 (.ref 484) :: en P "op_div" 775 (.ref 491) :: en P "op_idiv" 784 (.ref 498) :: en P "op_mod" 793 (.ref 505) :: en P "op_neg" 800 (.ref 512) :: en P "op_abs" 807 (.ref 519) :: en P "op_ceiling" 814 (.ref 526) :: en P "op_floor" 821 (.ref 533) :: en P "op_round" 828 (.ref 540) :: en P "op_truncate" 835 (.ref 547) :: en P "mathops_things" 843 (.ref 554) :: en P "op_eq" 852 (.ref 561) :: en P "op_ne" 861 (.ref 568) :: en P "op_lt" 870 (.ref 575) :: en P "op_gt" 879 (.ref 582) :: en P "op_ge" 888 (.ref 589) :: en P "op_le" 897 (.ref 596) :: en P "FIRST_SEED" 901 (.int (1) 900) :: en P "MachineCore" 1169 (.ref 791) :: en P "MOST_COST" 1175 (.int (16777216) 1174) :: en P "Limits" 1243 (.ref 813) :: en P "_law_words" 1264 (.ref 818) :: en P "_law_integers" 1281 (.ref 819) :: en P "_law_reals" 1287 (.ref 826) :: en P "_law_draw" 1295 (.ref 833) :: en P "_law_operand" 1303 (.ref 840) :: en P "_law_nearest" 1313 (.ref 847) :: en P "_law_whole" 1320 (.ref 854) :: en P "_law_real" 1327 (.ref 861) :: en P "_law_lone" 1338 (.ref 868) :: en P "_law_pair" 1344 (.ref 873) :: en P "_law_due" 1350 (.ref 878) :: en P "_law_called" 1358 (.ref 885) :: en P "_law_heard" 1364 (.ref 890) :: en P "law" 1370 (.ref 895) :: [])) 100), #[]⟩) ::
  (nat_lit 29, ⟨(.type "tuple"), none, (.seq #[.none] 0), #[]⟩) ::
  (nat_lit 35, ⟨(.type "code"), none, (.fields #[(.str (Str.ofString "__init__") 221), (.str (Str.ofString "PostError.__init__") 222), (.str (Str.ofString "/claim/cut.py") 223), (.int (10) 0), (.int (2) 0), (.int (0) 0), (.int (0) 0), (.int (3) 0), (.ref 30), (.bool true), (.int (181) 0), (.ref 31), .none, (.ref 32), (.ref 33), (.ref 34), (.int (226) 0), (.int (10) 0), (.str (Str.ofString "/claim/cut.py") 227)]), #[]⟩) ::
  (nat_lit 36, ⟨(.type "function"), none, (.func (fD (nth (inC (nth Bd 5)) 0) (Str.ofString "PostError.__init__") (.ref 29) .none .none (.str (Str.ofString "postcore.base") 194) none (.ref 35) .none)), #[]⟩) ::
  (nat_lit 38, ⟨(.type "dict"), none, (.dict #[en P "__module__" 216 (.str (Str.ofString "postcore.base") 194), en P "__firstlineno__" 220 (.int (8) 219), en P "__init__" 228 (.ref 36), en P "__static_attributes__" 230 (.ref 37), en P "__weakref__" 232 (.ref 40), en P "__doc__" 233 .none] 3), #[]⟩) ::
  (nat_lit 39, ⟨(.type "type"), none, (.cls { name := (Str.ofString "PostError"), bases := [(.type "Exception")], mro := [(.ref 39), (.type "Exception"), (.type "BaseException"), (.type "object")], ns := 38, qualname := (Str.ofString "PostError"), hasDict := true, slotNames := [], subclasses := [(.ref 52)], abstract := false, collection := none, hasDel := false }), #[some (.ref 22), none, some (.str (Str.ofString "PostError") 209), some (.str (Str.ofString "PostError") 217), some (.builtin "Exception.__new__"), some (.bool true)]⟩) ::
  (nat_lit 51, ⟨(.type "dict"), none, (.dict #[en P "__module__" 245 (.str (Str.ofString "postcore.base") 194), en P "__firstlineno__" 249 (.int (12) 248), en P "__static_attributes__" 250 (.ref 50), en P "__doc__" 251 .none] 2), #[]⟩) ::
  (nat_lit 52, ⟨(.type "type"), none, (.cls { name := (Str.ofString "PsError"), bases := [(.ref 39)], mro := [(.ref 52), (.ref 39), (.type "Exception"), (.type "BaseException"), (.type "object")], ns := 51, qualname := (Str.ofString "PsError"), hasDict := true, slotNames := [], subclasses := [], abstract := false, collection := none, hasDel := false }), #[some (.ref 43), none, some (.str (Str.ofString "PsError") 238), some (.str (Str.ofString "PsError") 246), some (.builtin "Exception.__new__"), some (.bool true)]⟩) ::
  (nat_lit 60, ⟨(.type "code"), none, (.fields #[(.str (Str.ofString "divided") 265), (.str (Str.ofString "divided") 266), (.str (Str.ofString "/claim/cut.py") 267), (.int (18) 0), (.int (2) 0), (.int (0) 0), (.int (0) 0), (.int (3) 0), (.ref 55), (.bool true), (.int (181) 0), (.ref 56), .none, (.ref 57), (.ref 58), (.ref 59), (.int (273) 0), (.int (18) 0), (.str (Str.ofString "/claim/cut.py") 274)]), #[]⟩) ::
  (nat_lit 61, ⟨(.type "function"), none, (.func (fD (nth Bd 11) (Str.ofString "divided") .none .none .none (.str (Str.ofString "postcore.numbers") 254) none (.ref 60) .none)), #[]⟩) ::
  (nat_lit 67, ⟨(.type "code"), none, (.fields #[(.str (Str.ofString "is_integer_size") 276), (.str (Str.ofString "is_integer_size") 277), (.str (Str.ofString "/claim/cut.py") 278), (.int (22) 0), (.int (1) 0), (.int (0) 0), (.int (0) 0), (.int (3) 0), (.ref 62), (.bool true), (.int (181) 0), (.ref 63), .none, (.ref 64), (.ref 65), (.ref 66), (.int (280) 0), (.int (22) 0), (.str (Str.ofString "/claim/cut.py") 281)]), #[]⟩) ::
  (nat_lit 68, ⟨(.type "function"), none, (.func (fD (nth Bd 12) (Str.ofString "is_integer_size") .none .none .none (.str (Str.ofString "postcore.numbers") 254) none (.ref 67) .none)), #[]⟩) ::
  (nat_lit 74, ⟨(.type "code"), none, (.fields #[(.str (Str.ofString "checked_real") 283), (.str (Str.ofString "checked_real") 284), (.str (Str.ofString "/claim/cut.py") 285), (.int (24) 0), (.int (1) 0), (.int (0) 0), (.int (0) 0), (.int (3) 0), (.ref 69), (.bool true), (.int (181) 0), (.ref 70), .none, (.ref 71), (.ref 72), (.ref 73), (.int (287) 0), (.int (24) 0), (.str (Str.ofString "/claim/cut.py") 288)]), #[]⟩) ::
  (nat_lit 75, ⟨(.type "function"), none, (.func (fD (nth Bd 13) (Str.ofString "checked_real") .none .none .none (.str (Str.ofString "postcore.numbers") 254) none (.ref 74) .none)), #[]⟩) ::
  (nat_lit 81, ⟨(.type "code"), none, (.fields #[(.str (Str.ofString "real_of") 290), (.str (Str.ofString "real_of") 291), (.str (Str.ofString "/claim/cut.py") 292), (.int (28) 0), (.int (1) 0), (.int (0) 0), (.int (0) 0), (.int (3) 0), (.ref 76), (.bool true), (.int (181) 0), (.ref 77), .none, (.ref 78), (.ref 79), (.ref 80), (.int (294) 0), (.int (28) 0), (.str (Str.ofString "/claim/cut.py") 295)]), #[]⟩) ::
  (nat_lit 82, ⟨(.type "function"), none, (.func (fD (nth Bd 14) (Str.ofString "real_of") .none .none .none (.str (Str.ofString "postcore.numbers") 254) none (.ref 81) .none)), #[]⟩) ::
  (nat_lit 88, ⟨(.type "code"), none, (.fields #[(.str (Str.ofString "millionths_of") 297), (.str (Str.ofString "millionths_of") 298), (.str (Str.ofString "/claim/cut.py") 299), (.int (30) 0), (.int (1) 0), (.int (0) 0), (.int (0) 0), (.int (3) 0), (.ref 83), (.bool true), (.int (181) 0), (.ref 84), .none, (.ref 85), (.ref 86), (.ref 87), (.int (301) 0), (.int (30) 0), (.str (Str.ofString "/claim/cut.py") 302)]), #[]⟩) ::
  (nat_lit 89, ⟨(.type "function"), none, (.func (fD (nth Bd 15) (Str.ofString "millionths_of") .none .none .none (.str (Str.ofString "postcore.numbers") 254) none (.ref 88) .none)), #[]⟩) ::
  (nat_lit 95, ⟨(.type "code"), none, (.fields #[(.str (Str.ofString "whole_number") 304), (.str (Str.ofString "whole_number") 305), (.str (Str.ofString "/claim/cut.py") 306), (.int (32) 0), (.int (1) 0), (.int (0) 0), (.int (0) 0), (.int (3) 0), (.ref 90), (.bool true), (.int (181) 0), (.ref 91), .none, (.ref 92), (.ref 93), (.ref 94), (.int (308) 0), (.int (32) 0), (.str (Str.ofString "/claim/cut.py") 309)]), #[]⟩) ::
  (nat_lit 96, ⟨(.type "function"), none, (.func (fD (nth Bd 16) (Str.ofString "whole_number") .none .none .none (.str (Str.ofString "postcore.numbers") 254) none (.ref 95) .none)), #[]⟩) ::
  (nat_lit 102, ⟨(.type "code"), none, (.fields #[(.str (Str.ofString "added") 311), (.str (Str.ofString "added") 312), (.str (Str.ofString "/claim/cut.py") 313), (.int (36) 0), (.int (2) 0), (.int (0) 0), (.int (0) 0), (.int (3) 0), (.ref 97), (.bool true), (.int (181) 0), (.ref 98), .none, (.ref 99), (.ref 100), (.ref 101), (.int (316) 0), (.int (36) 0), (.str (Str.ofString "/claim/cut.py") 317)]), #[]⟩) ::
  (nat_lit 103, ⟨(.type "function"), none, (.func (fD (nth Bd 17) (Str.ofString "added") .none .none .none (.str (Str.ofString "postcore.numbers") 254) none (.ref 102) .none)), #[]⟩) ::
  (nat_lit 109, ⟨(.type "code"), none, (.fields #[(.str (Str.ofString "subtracted") 319), (.str (Str.ofString "subtracted") 320), (.str (Str.ofString "/claim/cut.py") 321), (.int (40) 0), (.int (2) 0), (.int (0) 0), (.int (0) 0), (.int (3) 0), (.ref 104), (.bool true), (.int (181) 0), (.ref 105), .none, (.ref 106), (.ref 107), (.ref 108), (.int (324) 0), (.int (40) 0), (.str (Str.ofString "/claim/cut.py") 325)]), #[]⟩) ::
  (nat_lit 110, ⟨(.type "function"), none, (.func (fD (nth Bd 18) (Str.ofString "subtracted") .none .none .none (.str (Str.ofString "postcore.numbers") 254) none (.ref 109) .none)), #[]⟩) ::
  (nat_lit 116, ⟨(.type "code"), none, (.fields #[(.str (Str.ofString "multiplied") 327), (.str (Str.ofString "multiplied") 328), (.str (Str.ofString "/claim/cut.py") 329), (.int (44) 0), (.int (2) 0), (.int (0) 0), (.int (0) 0), (.int (3) 0), (.ref 111), (.bool true), (.int (181) 0), (.ref 112), .none, (.ref 113), (.ref 114), (.ref 115), (.int (332) 0), (.int (44) 0), (.str (Str.ofString "/claim/cut.py") 333)]), #[]⟩) ::
  (nat_lit 117, ⟨(.type "function"), none, (.func (fD (nth Bd 19) (Str.ofString "multiplied") .none .none .none (.str (Str.ofString "postcore.numbers") 254) none (.ref 116) .none)), #[]⟩) ::
  (nat_lit 123, ⟨(.type "code"), none, (.fields #[(.str (Str.ofString "quotient") 335), (.str (Str.ofString "quotient") 336), (.str (Str.ofString "/claim/cut.py") 337), (.int (48) 0), (.int (2) 0), (.int (0) 0), (.int (0) 0), (.int (3) 0), (.ref 118), (.bool true), (.int (181) 0), (.ref 119), .none, (.ref 120), (.ref 121), (.ref 122), (.int (341) 0), (.int (48) 0), (.str (Str.ofString "/claim/cut.py") 342)]), #[]⟩) ::
  (nat_lit 124, ⟨(.type "function"), none, (.func (fD (nth Bd 20) (Str.ofString "quotient") .none .none .none (.str (Str.ofString "postcore.numbers") 254) none (.ref 123) .none)), #[]⟩) ::
  (nat_lit 130, ⟨(.type "code"), none, (.fields #[(.str (Str.ofString "int_quotient") 344), (.str (Str.ofString "int_quotient") 345), (.str (Str.ofString "/claim/cut.py") 346), (.int (53) 0), (.int (2) 0), (.int (0) 0), (.int (0) 0), (.int (3) 0), (.ref 125), (.bool true), (.int (181) 0), (.ref 126), .none, (.ref 127), (.ref 128), (.ref 129), (.int (350) 0), (.int (53) 0), (.str (Str.ofString "/claim/cut.py") 351)]), #[]⟩) ::
  (nat_lit 131, ⟨(.type "function"), none, (.func (fD (nth Bd 21) (Str.ofString "int_quotient") .none .none .none (.str (Str.ofString "postcore.numbers") 254) none (.ref 130) .none)), #[]⟩) ::
  (nat_lit 137, ⟨(.type "code"), none, (.fields #[(.str (Str.ofString "int_rest") 353), (.str (Str.ofString "int_rest") 354), (.str (Str.ofString "/claim/cut.py") 355), (.int (61) 0), (.int (2) 0), (.int (0) 0), (.int (0) 0), (.int (3) 0), (.ref 132), (.bool true), (.int (181) 0), (.ref 133), .none, (.ref 134), (.ref 135), (.ref 136), (.int (359) 0), (.int (61) 0), (.str (Str.ofString "/claim/cut.py") 360)]), #[]⟩) ::
  (nat_lit 138, ⟨(.type "function"), none, (.func (fD (nth Bd 22) (Str.ofString "int_rest") .none .none .none (.str (Str.ofString "postcore.numbers") 254) none (.ref 137) .none)), #[]⟩) ::
  (nat_lit 144, ⟨(.type "code"), none, (.fields #[(.str (Str.ofString "negated") 362), (.str (Str.ofString "negated") 363), (.str (Str.ofString "/claim/cut.py") 364), (.int (66) 0), (.int (1) 0), (.int (0) 0), (.int (0) 0), (.int (3) 0), (.ref 139), (.bool true), (.int (181) 0), (.ref 140), .none, (.ref 141), (.ref 142), (.ref 143), (.int (366) 0), (.int (66) 0), (.str (Str.ofString "/claim/cut.py") 367)]), #[]⟩) ::
  (nat_lit 145, ⟨(.type "function"), none, (.func (fD (nth Bd 23) (Str.ofString "negated") .none .none .none (.str (Str.ofString "postcore.numbers") 254) none (.ref 144) .none)), #[]⟩) ::
  (nat_lit 151, ⟨(.type "code"), none, (.fields #[(.str (Str.ofString "absolute") 369), (.str (Str.ofString "absolute") 370), (.str (Str.ofString "/claim/cut.py") 371), (.int (68) 0), (.int (1) 0), (.int (0) 0), (.int (0) 0), (.int (3) 0), (.ref 146), (.bool true), (.int (181) 0), (.ref 147), .none, (.ref 148), (.ref 149), (.ref 150), (.int (373) 0), (.int (68) 0), (.str (Str.ofString "/claim/cut.py") 374)]), #[]⟩) ::
  (nat_lit 152, ⟨(.type "function"), none, (.func (fD (nth Bd 24) (Str.ofString "absolute") .none .none .none (.str (Str.ofString "postcore.numbers") 254) none (.ref 151) .none)), #[]⟩) ::
  (nat_lit 158, ⟨(.type "code"), none, (.fields #[(.str (Str.ofString "floor_of") 376), (.str (Str.ofString "floor_of") 377), (.str (Str.ofString "/claim/cut.py") 378), (.int (70) 0), (.int (1) 0), (.int (0) 0), (.int (0) 0), (.int (3) 0), (.ref 153), (.bool true), (.int (181) 0), (.ref 154), .none, (.ref 155), (.ref 156), (.ref 157), (.int (380) 0), (.int (70) 0), (.str (Str.ofString "/claim/cut.py") 381)]), #[]⟩) ::
  (nat_lit 159, ⟨(.type "function"), none, (.func (fD (nth Bd 25) (Str.ofString "floor_of") .none .none .none (.str (Str.ofString "postcore.numbers") 254) none (.ref 158) .none)), #[]⟩) ::
  (nat_lit 165, ⟨(.type "code"), none, (.fields #[(.str (Str.ofString "ceiling") 383), (.str (Str.ofString "ceiling") 384), (.str (Str.ofString "/claim/cut.py") 385), (.int (72) 0), (.int (1) 0), (.int (0) 0), (.int (0) 0), (.int (3) 0), (.ref 160), (.bool true), (.int (181) 0), (.ref 161), .none, (.ref 162), (.ref 163), (.ref 164), (.int (387) 0), (.int (72) 0), (.str (Str.ofString "/claim/cut.py") 388)]), #[]⟩) ::
  (nat_lit 166, ⟨(.type "function"), none, (.func (fD (nth Bd 26) (Str.ofString "ceiling") .none .none .none (.str (Str.ofString "postcore.numbers") 254) none (.ref 165) .none)), #[]⟩) ::
  (nat_lit 172, ⟨(.type "code"), none, (.fields #[(.str (Str.ofString "rounded") 390), (.str (Str.ofString "rounded") 391), (.str (Str.ofString "/claim/cut.py") 392), (.int (74) 0), (.int (1) 0), (.int (0) 0), (.int (0) 0), (.int (3) 0), (.ref 167), (.bool true), (.int (181) 0), (.ref 168), .none, (.ref 169), (.ref 170), (.ref 171), (.int (394) 0), (.int (74) 0), (.str (Str.ofString "/claim/cut.py") 395)]), #[]⟩) ::
  (nat_lit 173, ⟨(.type "function"), none, (.func (fD (nth Bd 27) (Str.ofString "rounded") .none .none .none (.str (Str.ofString "postcore.numbers") 254) none (.ref 172) .none)), #[]⟩) ::
  (nat_lit 179, ⟨(.type "code"), none, (.fields #[(.str (Str.ofString "truncated") 397), (.str (Str.ofString "truncated") 398), (.str (Str.ofString "/claim/cut.py") 399), (.int (76) 0), (.int (1) 0), (.int (0) 0), (.int (0) 0), (.int (3) 0), (.ref 174), (.bool true), (.int (181) 0), (.ref 175), .none, (.ref 176), (.ref 177), (.ref 178), (.int (402) 0), (.int (76) 0), (.str (Str.ofString "/claim/cut.py") 403)]), #[]⟩) ::
  (nat_lit 180, ⟨(.type "function"), none, (.func (fD (nth Bd 28) (Str.ofString "truncated") .none .none .none (.str (Str.ofString "postcore.numbers") 254) none (.ref 179) .none)), #[]⟩) ::
  (nat_lit 188, ⟨(.type "tuple"), none, (.seq #[(.bool false), (.int (3) 409)] 0), #[]⟩) ::
  (nat_lit 194, ⟨(.type "code"), none, (.fields #[(.str (Str.ofString "__init__") 423), (.str (Str.ofString "Thing.__init__") 424), (.str (Str.ofString "/claim/cut.py") 425), (.int (86) 0), (.int (5) 0), (.int (0) 0), (.int (0) 0), (.int (3) 0), (.ref 189), (.bool true), (.int (181) 0), (.ref 190), .none, (.ref 191), (.ref 192), (.ref 193), (.int (431) 0), (.int (86) 0), (.str (Str.ofString "/claim/cut.py") 432)]), #[]⟩) ::
  (nat_lit 195, ⟨(.type "function"), none, (.func (fD (nth (inC (nth Bd 32)) 0) (Str.ofString "Thing.__init__") (.ref 188) .none .none (.str (Str.ofString "postcore.objects") 405) none (.ref 194) .none)), #[]⟩) ::
  (nat_lit 197, ⟨(.type "dict"), none, (.dict #[en P "__module__" 418 (.str (Str.ofString "postcore.objects") 405), en P "__firstlineno__" 422 (.int (84) 421), en P "__init__" 433 (.ref 195), en P "__static_attributes__" 438 (.ref 196), en P "__dict__" 440 (.ref 199), en P "__weakref__" 442 (.ref 200), en P "__doc__" 443 .none] 4), #[]⟩) ::
  (nat_lit 198, ⟨(.type "type"), none, (.cls { name := (Str.ofString "Thing"), bases := [(.type "object")], mro := [(.ref 198), (.type "object")], ns := 197, qualname := (Str.ofString "Thing"), hasDict := true, slotNames := [], subclasses := [], abstract := false, collection := none, hasDel := false }), #[none, none, some (.str (Str.ofString "Thing") 411), some (.str (Str.ofString "Thing") 419), some (.builtin "object.__new__"), some (.bool true)]⟩) ::
  (nat_lit 208, ⟨(.type "code"), none, (.fields #[(.str (Str.ofString "integer") 446), (.str (Str.ofString "integer") 447), (.str (Str.ofString "/claim/cut.py") 448), (.int (91) 0), (.int (1) 0), (.int (0) 0), (.int (0) 0), (.int (3) 0), (.ref 203), (.bool true), (.int (181) 0), (.ref 204), .none, (.ref 205), (.ref 206), (.ref 207), (.int (450) 0), (.int (91) 0), (.str (Str.ofString "/claim/cut.py") 451)]), #[]⟩) ::
  (nat_lit 209, ⟨(.type "function"), none, (.func (fD (nth Bd 33) (Str.ofString "integer") .none .none .none (.str (Str.ofString "postcore.objects") 405) none (.ref 208) .none)), #[]⟩) ::
  (nat_lit 215, ⟨(.type "code"), none, (.fields #[(.str (Str.ofString "real") 453), (.str (Str.ofString "real") 454), (.str (Str.ofString "/claim/cut.py") 455), (.int (93) 0), (.int (1) 0), (.int (0) 0), (.int (0) 0), (.int (3) 0), (.ref 210), (.bool true), (.int (181) 0), (.ref 211), .none, (.ref 212), (.ref 213), (.ref 214), (.int (457) 0), (.int (93) 0), (.str (Str.ofString "/claim/cut.py") 458)]), #[]⟩) ::
  (nat_lit 216, ⟨(.type "function"), none, (.func (fD (nth Bd 34) (Str.ofString "real") .none .none .none (.str (Str.ofString "postcore.objects") 405) none (.ref 215) .none)), #[]⟩) ::
  (nat_lit 222, ⟨(.type "code"), none, (.fields #[(.str (Str.ofString "boolean") 460), (.str (Str.ofString "boolean") 461), (.str (Str.ofString "/claim/cut.py") 462), (.int (95) 0), (.int (1) 0), (.int (0) 0), (.int (0) 0), (.int (3) 0), (.ref 217), (.bool true), (.int (181) 0), (.ref 218), .none, (.ref 219), (.ref 220), (.ref 221), (.int (464) 0), (.int (95) 0), (.str (Str.ofString "/claim/cut.py") 465)]), #[]⟩) ::
  (nat_lit 223, ⟨(.type "function"), none, (.func (fD (nth Bd 35) (Str.ofString "boolean") .none .none .none (.str (Str.ofString "postcore.objects") 405) none (.ref 222) .none)), #[]⟩) ::
  (nat_lit 229, ⟨(.type "code"), none, (.fields #[(.str (Str.ofString "is_number") 467), (.str (Str.ofString "is_number") 468), (.str (Str.ofString "/claim/cut.py") 469), (.int (97) 0), (.int (1) 0), (.int (0) 0), (.int (0) 0), (.int (3) 0), (.ref 224), (.bool true), (.int (181) 0), (.ref 225), .none, (.ref 226), (.ref 227), (.ref 228), (.int (471) 0), (.int (97) 0), (.str (Str.ofString "/claim/cut.py") 472)]), #[]⟩) ::
  (nat_lit 230, ⟨(.type "function"), none, (.func (fD (nth Bd 36) (Str.ofString "is_number") .none .none .none (.str (Str.ofString "postcore.objects") 405) none (.ref 229) .none)), #[]⟩) ::
  (nat_lit 236, ⟨(.type "code"), none, (.fields #[(.str (Str.ofString "in_millionths") 474), (.str (Str.ofString "in_millionths") 475), (.str (Str.ofString "/claim/cut.py") 476), (.int (99) 0), (.int (1) 0), (.int (0) 0), (.int (0) 0), (.int (3) 0), (.ref 231), (.bool true), (.int (181) 0), (.ref 232), .none, (.ref 233), (.ref 234), (.ref 235), (.int (478) 0), (.int (99) 0), (.str (Str.ofString "/claim/cut.py") 479)]), #[]⟩) ::
  (nat_lit 237, ⟨(.type "function"), none, (.func (fD (nth Bd 37) (Str.ofString "in_millionths") .none .none .none (.str (Str.ofString "postcore.objects") 405) none (.ref 236) .none)), #[]⟩) ::
  (nat_lit 243, ⟨(.type "code"), none, (.fields #[(.str (Str.ofString "is_in_array") 481), (.str (Str.ofString "is_in_array") 482), (.str (Str.ofString "/claim/cut.py") 483), (.int (105) 0), (.int (1) 0), (.int (0) 0), (.int (0) 0), (.int (3) 0), (.ref 238), (.bool true), (.int (181) 0), (.ref 239), .none, (.ref 240), (.ref 241), (.ref 242), (.int (485) 0), (.int (105) 0), (.str (Str.ofString "/claim/cut.py") 486)]), #[]⟩) ::
  (nat_lit 244, ⟨(.type "function"), none, (.func (fD (nth Bd 38) (Str.ofString "is_in_array") .none .none .none (.str (Str.ofString "postcore.objects") 405) none (.ref 243) .none)), #[]⟩) ::
  (nat_lit 278, ⟨(.type "code"), none, (.fields #[(.str (Str.ofString "key_of") 516), (.str (Str.ofString "key_of") 517), (.str (Str.ofString "/claim/cut.py") 518), (.int (121) 0), (.int (1) 0), (.int (0) 0), (.int (0) 0), (.int (3) 0), (.ref 273), (.bool true), (.int (181) 0), (.ref 274), .none, (.ref 275), (.ref 276), (.ref 277), (.int (520) 0), (.int (121) 0), (.str (Str.ofString "/claim/cut.py") 521)]), #[]⟩) ::
  (nat_lit 279, ⟨(.type "function"), none, (.func (fD (nth Bd 43) (Str.ofString "key_of") .none .none .none (.str (Str.ofString "postcore.objects") 405) none (.ref 278) .none)), #[]⟩) ::
  (nat_lit 285, ⟨(.type "code"), none, (.fields #[(.str (Str.ofString "equal_things") 523), (.str (Str.ofString "equal_things") 524), (.str (Str.ofString "/claim/cut.py") 525), (.int (135) 0), (.int (2) 0), (.int (0) 0), (.int (0) 0), (.int (3) 0), (.ref 280), (.bool true), (.int (181) 0), (.ref 281), .none, (.ref 282), (.ref 283), (.ref 284), (.int (528) 0), (.int (135) 0), (.str (Str.ofString "/claim/cut.py") 529)]), #[]⟩) ::
  (nat_lit 286, ⟨(.type "function"), none, (.func (fD (nth Bd 44) (Str.ofString "equal_things") .none .none .none (.str (Str.ofString "postcore.objects") 405) none (.ref 285) .none)), #[]⟩) ::
  (nat_lit 292, ⟨(.type "code"), none, (.fields #[(.str (Str.ofString "less_than") 531), (.str (Str.ofString "less_than") 532), (.str (Str.ofString "/claim/cut.py") 533), (.int (139) 0), (.int (2) 0), (.int (0) 0), (.int (0) 0), (.int (3) 0), (.ref 287), (.bool true), (.int (181) 0), (.ref 288), .none, (.ref 289), (.ref 290), (.ref 291), (.int (536) 0), (.int (139) 0), (.str (Str.ofString "/claim/cut.py") 537)]), #[]⟩) ::
  (nat_lit 293, ⟨(.type "function"), none, (.func (fD (nth Bd 45) (Str.ofString "less_than") .none .none .none (.str (Str.ofString "postcore.objects") 405) none (.ref 292) .none)), #[]⟩) ::
  (nat_lit 294, ⟨(.type "tuple"), none, (.seq #[(.str (Str.ofString "integer") 541), (.str (Str.ofString "real") 542)] 0), #[]⟩) ::
  (nat_lit 307, ⟨(.type "code"), none, (.fields #[(.str (Str.ofString "__init__") 556), (.str (Str.ofString "Stack.__init__") 557), (.str (Str.ofString "/claim/cut.py") 558), (.int (149) 0), (.int (2) 0), (.int (0) 0), (.int (0) 0), (.int (3) 0), (.ref 302), (.bool true), (.int (181) 0), (.ref 303), .none, (.ref 304), (.ref 305), (.ref 306), (.int (561) 0), (.int (149) 0), (.str (Str.ofString "/claim/cut.py") 562)]), #[]⟩) ::
  (nat_lit 308, ⟨(.type "function"), none, (.func (fD (nth (inC (nth Bd 48)) 0) (Str.ofString "Stack.__init__") .none .none .none (.str (Str.ofString "postcore.stacks") 539) none (.ref 307) .none)), #[]⟩) ::
  (nat_lit 314, ⟨(.type "code"), none, (.fields #[(.str (Str.ofString "many") 564), (.str (Str.ofString "Stack.many") 565), (.str (Str.ofString "/claim/cut.py") 566), (.int (153) 0), (.int (1) 0), (.int (0) 0), (.int (0) 0), (.int (3) 0), (.ref 309), (.bool true), (.int (181) 0), (.ref 310), .none, (.ref 311), (.ref 312), (.ref 313), (.int (568) 0), (.int (153) 0), (.str (Str.ofString "/claim/cut.py") 569)]), #[]⟩) ::
  (nat_lit 315, ⟨(.type "function"), none, (.func (fD (nth (inC (nth Bd 48)) 1) (Str.ofString "Stack.many") .none .none .none (.str (Str.ofString "postcore.stacks") 539) none (.ref 314) .none)), #[]⟩) ::
  (nat_lit 316, ⟨(.type "property"), none, (.fields #[(.ref 315), .none, .none, .none, (.str (Str.ofString "many") 571), (.bool false)]), #[]⟩) ::
  (nat_lit 322, ⟨(.type "code"), none, (.fields #[(.str (Str.ofString "push") 572), (.str (Str.ofString "Stack.push") 573), (.str (Str.ofString "/claim/cut.py") 574), (.int (157) 0), (.int (2) 0), (.int (0) 0), (.int (0) 0), (.int (3) 0), (.ref 317), (.bool true), (.int (181) 0), (.ref 318), .none, (.ref 319), (.ref 320), (.ref 321), (.int (577) 0), (.int (157) 0), (.str (Str.ofString "/claim/cut.py") 578)]), #[]⟩) ::
  (nat_lit 323, ⟨(.type "function"), none, (.func (fD (nth (inC (nth Bd 48)) 2) (Str.ofString "Stack.push") .none .none .none (.str (Str.ofString "postcore.stacks") 539) none (.ref 322) .none)), #[]⟩) ::
  (nat_lit 336, ⟨(.type "code"), none, (.fields #[(.str (Str.ofString "pop") 588), (.str (Str.ofString "Stack.pop") 589), (.str (Str.ofString "/claim/cut.py") 590), (.int (165) 0), (.int (1) 0), (.int (0) 0), (.int (0) 0), (.int (3) 0), (.ref 331), (.bool true), (.int (181) 0), (.ref 332), .none, (.ref 333), (.ref 334), (.ref 335), (.int (592) 0), (.int (165) 0), (.str (Str.ofString "/claim/cut.py") 593)]), #[]⟩) ::
  (nat_lit 337, ⟨(.type "function"), none, (.func (fD (nth (inC (nth Bd 48)) 4) (Str.ofString "Stack.pop") .none .none .none (.str (Str.ofString "postcore.stacks") 539) none (.ref 336) .none)), #[]⟩) ::
  (nat_lit 343, ⟨(.type "code"), none, (.fields #[(.str (Str.ofString "at") 595), (.str (Str.ofString "Stack.at") 596), (.str (Str.ofString "/claim/cut.py") 597), (.int (170) 0), (.int (2) 0), (.int (0) 0), (.int (0) 0), (.int (3) 0), (.ref 338), (.bool true), (.int (181) 0), (.ref 339), .none, (.ref 340), (.ref 341), (.ref 342), (.int (600) 0), (.int (170) 0), (.str (Str.ofString "/claim/cut.py") 601)]), #[]⟩) ::
  (nat_lit 344, ⟨(.type "function"), none, (.func (fD (nth (inC (nth Bd 48)) 5) (Str.ofString "Stack.at") .none .none .none (.str (Str.ofString "postcore.stacks") 539) none (.ref 343) .none)), #[]⟩) ::
  (nat_lit 350, ⟨(.type "code"), none, (.fields #[(.str (Str.ofString "top") 603), (.str (Str.ofString "Stack.top") 604), (.str (Str.ofString "/claim/cut.py") 605), (.int (177) 0), (.int (2) 0), (.int (0) 0), (.int (0) 0), (.int (3) 0), (.ref 345), (.bool true), (.int (181) 0), (.ref 346), .none, (.ref 347), (.ref 348), (.ref 349), (.int (608) 0), (.int (177) 0), (.str (Str.ofString "/claim/cut.py") 609)]), #[]⟩) ::
  (nat_lit 351, ⟨(.type "function"), none, (.func (fD (nth (inC (nth Bd 48)) 6) (Str.ofString "Stack.top") .none .none .none (.str (Str.ofString "postcore.stacks") 539) none (.ref 350) .none)), #[]⟩) ::
  (nat_lit 395, ⟨(.type "dict"), none, (.dict #[en P "__module__" 551 (.str (Str.ofString "postcore.stacks") 539), en P "__firstlineno__" 555 (.int (147) 554), en P "__init__" 563 (.ref 308), en P "many" 571 (.ref 316), en P "push" 579 (.ref 323), en P "push_all" 587 (.ref 330), en P "pop" 594 (.ref 337), en P "at" 602 (.ref 344), en P "top" 610 (.ref 351), en P "take" 618 (.ref 358), en P "cut" 626 (.ref 365), en P "rolled" 635 (.ref 372), en P "to_mark" 642 (.ref 379), en P "snapshot" 649 (.ref 386), en P "put_back" 657 (.ref 393), en P "__static_attributes__" 660 (.ref 394), en P "__dict__" 662 (.ref 397), en P "__weakref__" 664 (.ref 398), en P "__doc__" 665 .none] 4), #[]⟩) ::
  (nat_lit 396, ⟨(.type "type"), none, (.cls { name := (Str.ofString "Stack"), bases := [(.type "object")], mro := [(.ref 396), (.type "object")], ns := 395, qualname := (Str.ofString "Stack"), hasDict := true, slotNames := [], subclasses := [], abstract := false, collection := none, hasDel := false }), #[none, none, some (.str (Str.ofString "Stack") 544), some (.str (Str.ofString "Stack") 552), some (.builtin "object.__new__"), some (.bool true)]⟩) ::
  (nat_lit 406, ⟨(.type "code"), none, (.fields #[(.str (Str.ofString "need") 668), (.str (Str.ofString "need") 669), (.str (Str.ofString "/claim/cut.py") 670), (.int (201) 0), (.int (2) 0), (.int (0) 0), (.int (0) 0), (.int (3) 0), (.ref 401), (.bool true), (.int (181) 0), (.ref 402), .none, (.ref 403), (.ref 404), (.ref 405), (.int (673) 0), (.int (201) 0), (.str (Str.ofString "/claim/cut.py") 674)]), #[]⟩) ::
  (nat_lit 407, ⟨(.type "function"), none, (.func (fD (nth Bd 49) (Str.ofString "need") .none .none .none (.str (Str.ofString "postcore.stacks") 539) none (.ref 406) .none)), #[]⟩) ::
  (nat_lit 413, ⟨(.type "code"), none, (.fields #[(.str (Str.ofString "stack_pop_kind") 676), (.str (Str.ofString "stack_pop_kind") 677), (.str (Str.ofString "/claim/cut.py") 678), (.int (204) 0), (.int (2) 0), (.int (0) 0), (.int (0) 0), (.int (3) 0), (.ref 408), (.bool true), (.int (181) 0), (.ref 409), .none, (.ref 410), (.ref 411), (.ref 412), (.int (681) 0), (.int (204) 0), (.str (Str.ofString "/claim/cut.py") 682)]), #[]⟩) ::
  (nat_lit 414, ⟨(.type "function"), none, (.func (fD (nth Bd 50) (Str.ofString "stack_pop_kind") .none .none .none (.str (Str.ofString "postcore.stacks") 539) none (.ref 413) .none)), #[]⟩) ::
  (nat_lit 420, ⟨(.type "code"), none, (.fields #[(.str (Str.ofString "pop_any") 684), (.str (Str.ofString "pop_any") 685), (.str (Str.ofString "/claim/cut.py") 686), (.int (208) 0), (.int (1) 0), (.int (0) 0), (.int (0) 0), (.int (3) 0), (.ref 415), (.bool true), (.int (181) 0), (.ref 416), .none, (.ref 417), (.ref 418), (.ref 419), (.int (688) 0), (.int (208) 0), (.str (Str.ofString "/claim/cut.py") 689)]), #[]⟩) ::
  (nat_lit 421, ⟨(.type "function"), none, (.func (fD (nth Bd 51) (Str.ofString "pop_any") .none .none .none (.str (Str.ofString "postcore.stacks") 539) none (.ref 420) .none)), #[]⟩) ::
  (nat_lit 427, ⟨(.type "code"), none, (.fields #[(.str (Str.ofString "pop_integer") 691), (.str (Str.ofString "pop_integer") 692), (.str (Str.ofString "/claim/cut.py") 693), (.int (210) 0), (.int (1) 0), (.int (0) 0), (.int (0) 0), (.int (3) 0), (.ref 422), (.bool true), (.int (181) 0), (.ref 423), .none, (.ref 424), (.ref 425), (.ref 426), (.int (695) 0), (.int (210) 0), (.str (Str.ofString "/claim/cut.py") 696)]), #[]⟩) ::
  (nat_lit 428, ⟨(.type "function"), none, (.func (fD (nth Bd 52) (Str.ofString "pop_integer") .none .none .none (.str (Str.ofString "postcore.stacks") 539) none (.ref 427) .none)), #[]⟩) ::
  (nat_lit 434, ⟨(.type "code"), none, (.fields #[(.str (Str.ofString "pop_number") 698), (.str (Str.ofString "pop_number") 699), (.str (Str.ofString "/claim/cut.py") 700), (.int (212) 0), (.int (1) 0), (.int (0) 0), (.int (0) 0), (.int (3) 0), (.ref 429), (.bool true), (.int (181) 0), (.ref 430), .none, (.ref 431), (.ref 432), (.ref 433), (.int (702) 0), (.int (212) 0), (.str (Str.ofString "/claim/cut.py") 703)]), #[]⟩) ::
  (nat_lit 435, ⟨(.type "function"), none, (.func (fD (nth Bd 53) (Str.ofString "pop_number") .none .none .none (.str (Str.ofString "postcore.stacks") 539) none (.ref 434) .none)), #[]⟩) ::
  (nat_lit 441, ⟨(.type "code"), none, (.fields #[(.str (Str.ofString "mathops_push") 707), (.str (Str.ofString "mathops_push") 708), (.str (Str.ofString "/claim/cut.py") 709), (.int (215) 0), (.int (2) 0), (.int (0) 0), (.int (0) 0), (.int (3) 0), (.ref 436), (.bool true), (.int (181) 0), (.ref 437), .none, (.ref 438), (.ref 439), (.ref 440), (.int (712) 0), (.int (215) 0), (.str (Str.ofString "/claim/cut.py") 713)]), #[]⟩) ::
  (nat_lit 442, ⟨(.type "function"), none, (.func (fD (nth Bd 55) (Str.ofString "mathops_push") .none .none .none (.str (Str.ofString "postcore.mathops") 705) none (.ref 441) .none)), #[]⟩) ::
  (nat_lit 448, ⟨(.type "code"), none, (.fields #[(.str (Str.ofString "mathops_one") 715), (.str (Str.ofString "mathops_one") 716), (.str (Str.ofString "/claim/cut.py") 717), (.int (217) 0), (.int (1) 0), (.int (0) 0), (.int (0) 0), (.int (3) 0), (.ref 443), (.bool true), (.int (181) 0), (.ref 444), .none, (.ref 445), (.ref 446), (.ref 447), (.int (720) 0), (.int (217) 0), (.str (Str.ofString "/claim/cut.py") 721)]), #[]⟩) ::
  (nat_lit 449, ⟨(.type "function"), none, (.func (fD (nth Bd 56) (Str.ofString "mathops_one") .none .none .none (.str (Str.ofString "postcore.mathops") 705) none (.ref 448) .none)), #[]⟩) ::
  (nat_lit 455, ⟨(.type "code"), none, (.fields #[(.str (Str.ofString "mathops_two") 723), (.str (Str.ofString "mathops_two") 724), (.str (Str.ofString "/claim/cut.py") 725), (.int (221) 0), (.int (1) 0), (.int (0) 0), (.int (0) 0), (.int (3) 0), (.ref 450), (.bool true), (.int (181) 0), (.ref 451), .none, (.ref 452), (.ref 453), (.ref 454), (.int (729) 0), (.int (221) 0), (.str (Str.ofString "/claim/cut.py") 730)]), #[]⟩) ::
  (nat_lit 456, ⟨(.type "function"), none, (.func (fD (nth Bd 57) (Str.ofString "mathops_two") .none .none .none (.str (Str.ofString "postcore.mathops") 705) none (.ref 455) .none)), #[]⟩) ::
  (nat_lit 462, ⟨(.type "code"), none, (.fields #[(.str (Str.ofString "mathops_integers") 732), (.str (Str.ofString "mathops_integers") 733), (.str (Str.ofString "/claim/cut.py") 734), (.int (226) 0), (.int (1) 0), (.int (0) 0), (.int (0) 0), (.int (3) 0), (.ref 457), (.bool true), (.int (181) 0), (.ref 458), .none, (.ref 459), (.ref 460), (.ref 461), (.int (737) 0), (.int (226) 0), (.str (Str.ofString "/claim/cut.py") 738)]), #[]⟩) ::
  (nat_lit 463, ⟨(.type "function"), none, (.func (fD (nth Bd 58) (Str.ofString "mathops_integers") .none .none .none (.str (Str.ofString "postcore.mathops") 705) none (.ref 462) .none)), #[]⟩) ::
  (nat_lit 469, ⟨(.type "code"), none, (.fields #[(.str (Str.ofString "op_add") 740), (.str (Str.ofString "op_add") 741), (.str (Str.ofString "/claim/cut.py") 742), (.int (230) 0), (.int (1) 0), (.int (0) 0), (.int (0) 0), (.int (3) 0), (.ref 464), (.bool true), (.int (181) 0), (.ref 465), .none, (.ref 466), (.ref 467), (.ref 468), (.int (746) 0), (.int (230) 0), (.str (Str.ofString "/claim/cut.py") 747)]), #[]⟩) ::
  (nat_lit 470, ⟨(.type "function"), none, (.func (fD (nth Bd 59) (Str.ofString "op_add") .none .none .none (.str (Str.ofString "postcore.mathops") 705) none (.ref 469) .none)), #[]⟩) ::
  (nat_lit 476, ⟨(.type "code"), none, (.fields #[(.str (Str.ofString "op_sub") 749), (.str (Str.ofString "op_sub") 750), (.str (Str.ofString "/claim/cut.py") 751), (.int (233) 0), (.int (1) 0), (.int (0) 0), (.int (0) 0), (.int (3) 0), (.ref 471), (.bool true), (.int (181) 0), (.ref 472), .none, (.ref 473), (.ref 474), (.ref 475), (.int (755) 0), (.int (233) 0), (.str (Str.ofString "/claim/cut.py") 756)]), #[]⟩) ::
  (nat_lit 477, ⟨(.type "function"), none, (.func (fD (nth Bd 60) (Str.ofString "op_sub") .none .none .none (.str (Str.ofString "postcore.mathops") 705) none (.ref 476) .none)), #[]⟩) ::
  (nat_lit 483, ⟨(.type "code"), none, (.fields #[(.str (Str.ofString "op_mul") 758), (.str (Str.ofString "op_mul") 759), (.str (Str.ofString "/claim/cut.py") 760), (.int (236) 0), (.int (1) 0), (.int (0) 0), (.int (0) 0), (.int (3) 0), (.ref 478), (.bool true), (.int (181) 0), (.ref 479), .none, (.ref 480), (.ref 481), (.ref 482), (.int (764) 0), (.int (236) 0), (.str (Str.ofString "/claim/cut.py") 765)]), #[]⟩) ::
  (nat_lit 484, ⟨(.type "function"), none, (.func (fD (nth Bd 61) (Str.ofString "op_mul") .none .none .none (.str (Str.ofString "postcore.mathops") 705) none (.ref 483) .none)), #[]⟩) ::
  (nat_lit 490, ⟨(.type "code"), none, (.fields #[(.str (Str.ofString "op_div") 767), (.str (Str.ofString "op_div") 768), (.str (Str.ofString "/claim/cut.py") 769), (.int (239) 0), (.int (1) 0), (.int (0) 0), (.int (0) 0), (.int (3) 0), (.ref 485), (.bool true), (.int (181) 0), (.ref 486), .none, (.ref 487), (.ref 488), (.ref 489), (.int (773) 0), (.int (239) 0), (.str (Str.ofString "/claim/cut.py") 774)]), #[]⟩) ::
  (nat_lit 491, ⟨(.type "function"), none, (.func (fD (nth Bd 62) (Str.ofString "op_div") .none .none .none (.str (Str.ofString "postcore.mathops") 705) none (.ref 490) .none)), #[]⟩) ::
  (nat_lit 497, ⟨(.type "code"), none, (.fields #[(.str (Str.ofString "op_idiv") 776), (.str (Str.ofString "op_idiv") 777), (.str (Str.ofString "/claim/cut.py") 778), (.int (242) 0), (.int (1) 0), (.int (0) 0), (.int (0) 0), (.int (3) 0), (.ref 492), (.bool true), (.int (181) 0), (.ref 493), .none, (.ref 494), (.ref 495), (.ref 496), (.int (782) 0), (.int (242) 0), (.str (Str.ofString "/claim/cut.py") 783)]), #[]⟩) ::
  (nat_lit 498, ⟨(.type "function"), none, (.func (fD (nth Bd 63) (Str.ofString "op_idiv") .none .none .none (.str (Str.ofString "postcore.mathops") 705) none (.ref 497) .none)), #[]⟩) ::
  (nat_lit 504, ⟨(.type "code"), none, (.fields #[(.str (Str.ofString "op_mod") 785), (.str (Str.ofString "op_mod") 786), (.str (Str.ofString "/claim/cut.py") 787), (.int (245) 0), (.int (1) 0), (.int (0) 0), (.int (0) 0), (.int (3) 0), (.ref 499), (.bool true), (.int (181) 0), (.ref 500), .none, (.ref 501), (.ref 502), (.ref 503), (.int (791) 0), (.int (245) 0), (.str (Str.ofString "/claim/cut.py") 792)]), #[]⟩) ::
  (nat_lit 505, ⟨(.type "function"), none, (.func (fD (nth Bd 64) (Str.ofString "op_mod") .none .none .none (.str (Str.ofString "postcore.mathops") 705) none (.ref 504) .none)), #[]⟩) ::
  (nat_lit 511, ⟨(.type "code"), none, (.fields #[(.str (Str.ofString "op_neg") 794), (.str (Str.ofString "op_neg") 795), (.str (Str.ofString "/claim/cut.py") 796), (.int (248) 0), (.int (1) 0), (.int (0) 0), (.int (0) 0), (.int (3) 0), (.ref 506), (.bool true), (.int (181) 0), (.ref 507), .none, (.ref 508), (.ref 509), (.ref 510), (.int (798) 0), (.int (248) 0), (.str (Str.ofString "/claim/cut.py") 799)]), #[]⟩) ::
  (nat_lit 512, ⟨(.type "function"), none, (.func (fD (nth Bd 65) (Str.ofString "op_neg") .none .none .none (.str (Str.ofString "postcore.mathops") 705) none (.ref 511) .none)), #[]⟩) ::
  (nat_lit 518, ⟨(.type "code"), none, (.fields #[(.str (Str.ofString "op_abs") 801), (.str (Str.ofString "op_abs") 802), (.str (Str.ofString "/claim/cut.py") 803), (.int (250) 0), (.int (1) 0), (.int (0) 0), (.int (0) 0), (.int (3) 0), (.ref 513), (.bool true), (.int (181) 0), (.ref 514), .none, (.ref 515), (.ref 516), (.ref 517), (.int (805) 0), (.int (250) 0), (.str (Str.ofString "/claim/cut.py") 806)]), #[]⟩) ::
  (nat_lit 519, ⟨(.type "function"), none, (.func (fD (nth Bd 66) (Str.ofString "op_abs") .none .none .none (.str (Str.ofString "postcore.mathops") 705) none (.ref 518) .none)), #[]⟩) ::
  (nat_lit 525, ⟨(.type "code"), none, (.fields #[(.str (Str.ofString "op_ceiling") 808), (.str (Str.ofString "op_ceiling") 809), (.str (Str.ofString "/claim/cut.py") 810), (.int (252) 0), (.int (1) 0), (.int (0) 0), (.int (0) 0), (.int (3) 0), (.ref 520), (.bool true), (.int (181) 0), (.ref 521), .none, (.ref 522), (.ref 523), (.ref 524), (.int (812) 0), (.int (252) 0), (.str (Str.ofString "/claim/cut.py") 813)]), #[]⟩) ::
  (nat_lit 526, ⟨(.type "function"), none, (.func (fD (nth Bd 67) (Str.ofString "op_ceiling") .none .none .none (.str (Str.ofString "postcore.mathops") 705) none (.ref 525) .none)), #[]⟩) ::
  (nat_lit 532, ⟨(.type "code"), none, (.fields #[(.str (Str.ofString "op_floor") 815), (.str (Str.ofString "op_floor") 816), (.str (Str.ofString "/claim/cut.py") 817), (.int (254) 0), (.int (1) 0), (.int (0) 0), (.int (0) 0), (.int (3) 0), (.ref 527), (.bool true), (.int (181) 0), (.ref 528), .none, (.ref 529), (.ref 530), (.ref 531), (.int (819) 0), (.int (254) 0), (.str (Str.ofString "/claim/cut.py") 820)]), #[]⟩) ::
  (nat_lit 533, ⟨(.type "function"), none, (.func (fD (nth Bd 68) (Str.ofString "op_floor") .none .none .none (.str (Str.ofString "postcore.mathops") 705) none (.ref 532) .none)), #[]⟩) ::
  (nat_lit 539, ⟨(.type "code"), none, (.fields #[(.str (Str.ofString "op_round") 822), (.str (Str.ofString "op_round") 823), (.str (Str.ofString "/claim/cut.py") 824), (.int (256) 0), (.int (1) 0), (.int (0) 0), (.int (0) 0), (.int (3) 0), (.ref 534), (.bool true), (.int (181) 0), (.ref 535), .none, (.ref 536), (.ref 537), (.ref 538), (.int (826) 0), (.int (256) 0), (.str (Str.ofString "/claim/cut.py") 827)]), #[]⟩) ::
  (nat_lit 540, ⟨(.type "function"), none, (.func (fD (nth Bd 69) (Str.ofString "op_round") .none .none .none (.str (Str.ofString "postcore.mathops") 705) none (.ref 539) .none)), #[]⟩) ::
  (nat_lit 546, ⟨(.type "code"), none, (.fields #[(.str (Str.ofString "op_truncate") 829), (.str (Str.ofString "op_truncate") 830), (.str (Str.ofString "/claim/cut.py") 831), (.int (258) 0), (.int (1) 0), (.int (0) 0), (.int (0) 0), (.int (3) 0), (.ref 541), (.bool true), (.int (181) 0), (.ref 542), .none, (.ref 543), (.ref 544), (.ref 545), (.int (833) 0), (.int (258) 0), (.str (Str.ofString "/claim/cut.py") 834)]), #[]⟩) ::
  (nat_lit 547, ⟨(.type "function"), none, (.func (fD (nth Bd 70) (Str.ofString "op_truncate") .none .none .none (.str (Str.ofString "postcore.mathops") 705) none (.ref 546) .none)), #[]⟩) ::
  (nat_lit 553, ⟨(.type "code"), none, (.fields #[(.str (Str.ofString "mathops_things") 836), (.str (Str.ofString "mathops_things") 837), (.str (Str.ofString "/claim/cut.py") 838), (.int (260) 0), (.int (1) 0), (.int (0) 0), (.int (0) 0), (.int (3) 0), (.ref 548), (.bool true), (.int (181) 0), (.ref 549), .none, (.ref 550), (.ref 551), (.ref 552), (.int (841) 0), (.int (260) 0), (.str (Str.ofString "/claim/cut.py") 842)]), #[]⟩) ::
  (nat_lit 554, ⟨(.type "function"), none, (.func (fD (nth Bd 71) (Str.ofString "mathops_things") .none .none .none (.str (Str.ofString "postcore.mathops") 705) none (.ref 553) .none)), #[]⟩) ::
  (nat_lit 560, ⟨(.type "code"), none, (.fields #[(.str (Str.ofString "op_eq") 844), (.str (Str.ofString "op_eq") 845), (.str (Str.ofString "/claim/cut.py") 846), (.int (264) 0), (.int (1) 0), (.int (0) 0), (.int (0) 0), (.int (3) 0), (.ref 555), (.bool true), (.int (181) 0), (.ref 556), .none, (.ref 557), (.ref 558), (.ref 559), (.int (850) 0), (.int (264) 0), (.str (Str.ofString "/claim/cut.py") 851)]), #[]⟩) ::
  (nat_lit 561, ⟨(.type "function"), none, (.func (fD (nth Bd 72) (Str.ofString "op_eq") .none .none .none (.str (Str.ofString "postcore.mathops") 705) none (.ref 560) .none)), #[]⟩) ::
  (nat_lit 567, ⟨(.type "code"), none, (.fields #[(.str (Str.ofString "op_ne") 853), (.str (Str.ofString "op_ne") 854), (.str (Str.ofString "/claim/cut.py") 855), (.int (267) 0), (.int (1) 0), (.int (0) 0), (.int (0) 0), (.int (3) 0), (.ref 562), (.bool true), (.int (181) 0), (.ref 563), .none, (.ref 564), (.ref 565), (.ref 566), (.int (859) 0), (.int (267) 0), (.str (Str.ofString "/claim/cut.py") 860)]), #[]⟩) ::
  (nat_lit 568, ⟨(.type "function"), none, (.func (fD (nth Bd 73) (Str.ofString "op_ne") .none .none .none (.str (Str.ofString "postcore.mathops") 705) none (.ref 567) .none)), #[]⟩) ::
  (nat_lit 574, ⟨(.type "code"), none, (.fields #[(.str (Str.ofString "op_lt") 862), (.str (Str.ofString "op_lt") 863), (.str (Str.ofString "/claim/cut.py") 864), (.int (270) 0), (.int (1) 0), (.int (0) 0), (.int (0) 0), (.int (3) 0), (.ref 569), (.bool true), (.int (181) 0), (.ref 570), .none, (.ref 571), (.ref 572), (.ref 573), (.int (868) 0), (.int (270) 0), (.str (Str.ofString "/claim/cut.py") 869)]), #[]⟩) ::
  (nat_lit 575, ⟨(.type "function"), none, (.func (fD (nth Bd 74) (Str.ofString "op_lt") .none .none .none (.str (Str.ofString "postcore.mathops") 705) none (.ref 574) .none)), #[]⟩) ::
  (nat_lit 581, ⟨(.type "code"), none, (.fields #[(.str (Str.ofString "op_gt") 871), (.str (Str.ofString "op_gt") 872), (.str (Str.ofString "/claim/cut.py") 873), (.int (273) 0), (.int (1) 0), (.int (0) 0), (.int (0) 0), (.int (3) 0), (.ref 576), (.bool true), (.int (181) 0), (.ref 577), .none, (.ref 578), (.ref 579), (.ref 580), (.int (877) 0), (.int (273) 0), (.str (Str.ofString "/claim/cut.py") 878)]), #[]⟩) ::
  (nat_lit 582, ⟨(.type "function"), none, (.func (fD (nth Bd 75) (Str.ofString "op_gt") .none .none .none (.str (Str.ofString "postcore.mathops") 705) none (.ref 581) .none)), #[]⟩) ::
  (nat_lit 588, ⟨(.type "code"), none, (.fields #[(.str (Str.ofString "op_ge") 880), (.str (Str.ofString "op_ge") 881), (.str (Str.ofString "/claim/cut.py") 882), (.int (276) 0), (.int (1) 0), (.int (0) 0), (.int (0) 0), (.int (3) 0), (.ref 583), (.bool true), (.int (181) 0), (.ref 584), .none, (.ref 585), (.ref 586), (.ref 587), (.int (886) 0), (.int (276) 0), (.str (Str.ofString "/claim/cut.py") 887)]), #[]⟩) ::
  (nat_lit 589, ⟨(.type "function"), none, (.func (fD (nth Bd 76) (Str.ofString "op_ge") .none .none .none (.str (Str.ofString "postcore.mathops") 705) none (.ref 588) .none)), #[]⟩) ::
  (nat_lit 595, ⟨(.type "code"), none, (.fields #[(.str (Str.ofString "op_le") 889), (.str (Str.ofString "op_le") 890), (.str (Str.ofString "/claim/cut.py") 891), (.int (279) 0), (.int (1) 0), (.int (0) 0), (.int (0) 0), (.int (3) 0), (.ref 590), (.bool true), (.int (181) 0), (.ref 591), .none, (.ref 592), (.ref 593), (.ref 594), (.int (895) 0), (.int (279) 0), (.str (Str.ofString "/claim/cut.py") 896)]), #[]⟩) ::
  (nat_lit 596, ⟨(.type "function"), none, (.func (fD (nth Bd 77) (Str.ofString "op_le") .none .none .none (.str (Str.ofString "postcore.mathops") 705) none (.ref 595) .none)), #[]⟩) ::
  (nat_lit 609, ⟨(.type "code"), none, (.fields #[(.str (Str.ofString "__init__") 914), (.str (Str.ofString "MachineCore.__init__") 915), (.str (Str.ofString "/claim/cut.py") 916), (.int (286) 0), (.int (7) 0), (.int (0) 0), (.int (0) 0), (.int (3) 0), (.ref 604), (.bool true), (.int (181) 0), (.ref 605), .none, (.ref 606), (.ref 607), (.ref 608), (.int (924) 0), (.int (286) 0), (.str (Str.ofString "/claim/cut.py") 925)]), #[]⟩) ::
  (nat_lit 610, ⟨(.type "function"), none, (.func (fD (nth (inC (nth Bd 80)) 0) (Str.ofString "MachineCore.__init__") .none .none .none (.str (Str.ofString "postcore.machine") 898) none (.ref 609) .none)), #[]⟩) ::
  (nat_lit 616, ⟨(.type "code"), none, (.fields #[(.str (Str.ofString "begin") 927), (.str (Str.ofString "MachineCore.begin") 928), (.str (Str.ofString "/claim/cut.py") 929), (.int (289) 0), (.int (7) 0), (.int (0) 0), (.int (0) 0), (.int (3) 0), (.ref 611), (.bool true), (.int (181) 0), (.ref 612), .none, (.ref 613), (.ref 614), (.ref 615), (.int (937) 0), (.int (289) 0), (.str (Str.ofString "/claim/cut.py") 938)]), #[]⟩) ::
  (nat_lit 617, ⟨(.type "function"), none, (.func (fD (nth (inC (nth Bd 80)) 1) (Str.ofString "MachineCore.begin") .none .none .none (.str (Str.ofString "postcore.machine") 898) none (.ref 616) .none)), #[]⟩) ::
  (nat_lit 790, ⟨(.type "dict"), none, (.dict (List.toArray (en P "__module__" 909 (.str (Str.ofString "postcore.machine") 898) :: en P "__firstlineno__" 913 (.int (284) 912) :: en P "__init__" 926 (.ref 610) :: en P "begin" 939 (.ref 617) :: en P "push_frame" 947 (.ref 624) :: en P "drop" 955 (.ref 631) :: en P "cut_frames" 963 (.ref 638) :: en P "frames_row" 970 (.ref 645) :: en P "place_of_frame" 979 (.ref 654) :: en P "stop" 986 (.ref 661) :: en P "trace" 995 (.ref 668) :: en P "push_operand" 1003 (.ref 675) :: en P "met" 1011 (.ref 682) :: en P "execute" 1019 (.ref 689) :: en P "run_proc" 1027 (.ref 696) :: en P "run_source" 1035 (.ref 703) :: en P "lookup" 1043 (.ref 710) :: en P "value_of" 1051 (.ref 717) :: en P "run_name" 1059 (.ref 724) :: en P "call" 1067 (.ref 731) :: en P "scanned" 1075 (.ref 738) :: en P "tell" 1083 (.ref 745) :: en P "failed" 1092 (.ref 752) :: en P "step" 1099 (.ref 759) :: en P "go_on" 1109 (.ref 767) :: en P "run" 1118 (.ref 774) :: en P "run_thing" 1127 (.ref 781) :: en P "install" 1135 (.ref 788) :: en P "__static_attributes__" 1162 (.ref 789) :: en P "__dict__" 1164 (.ref 792) :: en P "__weakref__" 1166 (.ref 793) :: en P "__doc__" 1167 .none :: [])) 4), #[]⟩) ::
  (nat_lit 791, ⟨(.type "type"), none, (.cls { name := (Str.ofString "MachineCore"), bases := [(.type "object")], mro := [(.ref 791), (.type "object")], ns := 790, qualname := (Str.ofString "MachineCore"), hasDict := true, slotNames := [], subclasses := [], abstract := false, collection := none, hasDel := false }), #[none, none, some (.str (Str.ofString "MachineCore") 902), some (.str (Str.ofString "MachineCore") 910), some (.builtin "object.__new__"), some (.bool true)]⟩) ::
  (nat_lit 803, ⟨(.type "tuple"), none, (.seq #[(.int (500) 1188), (.int (20) 1189), (.int (250) 1190), (.int (15) 1191), (.int (31) 1192), (.int (65535) 1193), (.int (65535) 1194), (.int (65535) 1195), (.int (127) 1196), (.int (1500) 1197), (.int (11) 1198), (.int (15) 1199), (.int (600) 1200), (.int (16777216) 1174)] 0), #[]⟩) ::
  (nat_lit 809, ⟨(.type "code"), none, (.fields #[(.str (Str.ofString "__init__") 1201), (.str (Str.ofString "Limits.__init__") 1202), (.str (Str.ofString "/claim/cut.py") 1203), (.int (393) 0), (.int (15) 0), (.int (0) 0), (.int (0) 0), (.int (3) 0), (.ref 804), (.bool true), (.int (181) 0), (.ref 805), .none, (.ref 806), (.ref 807), (.ref 808), (.int (1219) 0), (.int (393) 0), (.str (Str.ofString "/claim/cut.py") 1220)]), #[]⟩) ::
  (nat_lit 810, ⟨(.type "function"), none, (.func (fD (nth (inC (nth Bd 83)) 0) (Str.ofString "Limits.__init__") (.ref 803) .none .none (.str (Str.ofString "postcore.memory") 1170) none (.ref 809) .none)), #[]⟩) ::
  (nat_lit 812, ⟨(.type "dict"), none, (.dict #[en P "__module__" 1183 (.str (Str.ofString "postcore.memory") 1170), en P "__firstlineno__" 1187 (.int (391) 1186), en P "__init__" 1221 (.ref 810), en P "__static_attributes__" 1236 (.ref 811), en P "__dict__" 1238 (.ref 814), en P "__weakref__" 1240 (.ref 815), en P "__doc__" 1241 .none] 4), #[]⟩) ::
  (nat_lit 813, ⟨(.type "type"), none, (.cls { name := (Str.ofString "Limits"), bases := [(.type "object")], mro := [(.ref 813), (.type "object")], ns := 812, qualname := (Str.ofString "Limits"), hasDict := true, slotNames := [], subclasses := [], abstract := false, collection := none, hasDel := false }), #[none, none, some (.str (Str.ofString "Limits") 1176), some (.str (Str.ofString "Limits") 1184), some (.builtin "object.__new__"), some (.bool true)]⟩) ::
  (nat_lit 818, ⟨(.type "tuple"), none, (.seq #[(.str (Str.ofString "add") 1246), (.str (Str.ofString "sub") 1247), (.str (Str.ofString "mul") 1248), (.str (Str.ofString "div") 1249), (.str (Str.ofString "idiv") 1250), (.str (Str.ofString "mod") 1251), (.str (Str.ofString "neg") 1252), (.str (Str.ofString "abs") 1253), (.str (Str.ofString "ceiling") 1254), (.str (Str.ofString "floor") 1255), (.str (Str.ofString "round") 1256), (.str (Str.ofString "truncate") 1257), (.str (Str.ofString "eq") 1258), (.str (Str.ofString "ne") 1259), (.str (Str.ofString "lt") 1260), (.str (Str.ofString "gt") 1261), (.str (Str.ofString "le") 1262), (.str (Str.ofString "ge") 1263)] 0), #[]⟩) ::
  (nat_lit 819, ⟨(.type "tuple"), none, (.seq #[(.int (0) 1265), (.int (1) 1266), (.int (-1) 1268), (.int (2) 1269), (.int (7) 1270), (.int (-7) 1272), (.int (2147483647) 1273), (.int (-2147483648) 1275), (.int (65536) 1276), (.int (46341) 1277), (.int (-3) 1279), (.int (10) 1280)] 0), #[]⟩) ::
  (nat_lit 825, ⟨(.type "code"), none, (.fields #[(.str (Str.ofString "_law_reals") 1282), (.str (Str.ofString "_law_reals") 1283), (.str (Str.ofString "/claim/cut.py") 1284), (.int (411) 0), (.int (0) 0), (.int (0) 0), (.int (0) 0), (.int (3) 0), (.ref 820), (.bool true), (.int (181) 0), (.ref 821), .none, (.ref 822), (.ref 823), (.ref 824), (.int (1285) 0), (.int (411) 0), (.str (Str.ofString "/claim/cut.py") 1286)]), #[]⟩) ::
  (nat_lit 826, ⟨(.type "function"), none, (.func (fD (nth Bd 87) (Str.ofString "_law_reals") .none .none .none (.str (Str.ofString "law_on0276_01") 1244) none (.ref 825) .none)), #[]⟩) ::
  (nat_lit 832, ⟨(.type "code"), none, (.fields #[(.str (Str.ofString "_law_draw") 1288), (.str (Str.ofString "_law_draw") 1289), (.str (Str.ofString "/claim/cut.py") 1290), (.int (413) 0), (.int (2) 0), (.int (0) 0), (.int (0) 0), (.int (3) 0), (.ref 827), (.bool true), (.int (181) 0), (.ref 828), .none, (.ref 829), (.ref 830), (.ref 831), (.int (1293) 0), (.int (413) 0), (.str (Str.ofString "/claim/cut.py") 1294)]), #[]⟩) ::
  (nat_lit 833, ⟨(.type "function"), none, (.func (fD (nth Bd 88) (Str.ofString "_law_draw") .none .none .none (.str (Str.ofString "law_on0276_01") 1244) none (.ref 832) .none)), #[]⟩) ::
  (nat_lit 839, ⟨(.type "code"), none, (.fields #[(.str (Str.ofString "_law_operand") 1296), (.str (Str.ofString "_law_operand") 1297), (.str (Str.ofString "/claim/cut.py") 1298), (.int (416) 0), (.int (1) 0), (.int (0) 0), (.int (0) 0), (.int (3) 0), (.ref 834), (.bool true), (.int (181) 0), (.ref 835), .none, (.ref 836), (.ref 837), (.ref 838), (.int (1301) 0), (.int (416) 0), (.str (Str.ofString "/claim/cut.py") 1302)]), #[]⟩) ::
  (nat_lit 840, ⟨(.type "function"), none, (.func (fD (nth Bd 89) (Str.ofString "_law_operand") .none .none .none (.str (Str.ofString "law_on0276_01") 1244) none (.ref 839) .none)), #[]⟩) ::
  (nat_lit 846, ⟨(.type "code"), none, (.fields #[(.str (Str.ofString "_law_nearest") 1304), (.str (Str.ofString "_law_nearest") 1305), (.str (Str.ofString "/claim/cut.py") 1306), (.int (427) 0), (.int (2) 0), (.int (0) 0), (.int (0) 0), (.int (3) 0), (.ref 841), (.bool true), (.int (181) 0), (.ref 842), .none, (.ref 843), (.ref 844), (.ref 845), (.int (1311) 0), (.int (427) 0), (.str (Str.ofString "/claim/cut.py") 1312)]), #[]⟩) ::
  (nat_lit 847, ⟨(.type "function"), none, (.func (fD (nth Bd 90) (Str.ofString "_law_nearest") .none .none .none (.str (Str.ofString "law_on0276_01") 1244) none (.ref 846) .none)), #[]⟩) ::
  (nat_lit 853, ⟨(.type "code"), none, (.fields #[(.str (Str.ofString "_law_whole") 1314), (.str (Str.ofString "_law_whole") 1315), (.str (Str.ofString "/claim/cut.py") 1316), (.int (432) 0), (.int (1) 0), (.int (0) 0), (.int (0) 0), (.int (3) 0), (.ref 848), (.bool true), (.int (181) 0), (.ref 849), .none, (.ref 850), (.ref 851), (.ref 852), (.int (1318) 0), (.int (432) 0), (.str (Str.ofString "/claim/cut.py") 1319)]), #[]⟩) ::
  (nat_lit 854, ⟨(.type "function"), none, (.func (fD (nth Bd 91) (Str.ofString "_law_whole") .none .none .none (.str (Str.ofString "law_on0276_01") 1244) none (.ref 853) .none)), #[]⟩) ::
  (nat_lit 860, ⟨(.type "code"), none, (.fields #[(.str (Str.ofString "_law_real") 1321), (.str (Str.ofString "_law_real") 1322), (.str (Str.ofString "/claim/cut.py") 1323), (.int (434) 0), (.int (1) 0), (.int (0) 0), (.int (0) 0), (.int (3) 0), (.ref 855), (.bool true), (.int (181) 0), (.ref 856), .none, (.ref 857), (.ref 858), (.ref 859), (.int (1325) 0), (.int (434) 0), (.str (Str.ofString "/claim/cut.py") 1326)]), #[]⟩) ::
  (nat_lit 861, ⟨(.type "function"), none, (.func (fD (nth Bd 92) (Str.ofString "_law_real") .none .none .none (.str (Str.ofString "law_on0276_01") 1244) none (.ref 860) .none)), #[]⟩) ::
  (nat_lit 867, ⟨(.type "code"), none, (.fields #[(.str (Str.ofString "_law_lone") 1328), (.str (Str.ofString "_law_lone") 1329), (.str (Str.ofString "/claim/cut.py") 1330), (.int (436) 0), (.int (2) 0), (.int (0) 0), (.int (0) 0), (.int (3) 0), (.ref 862), (.bool true), (.int (181) 0), (.ref 863), .none, (.ref 864), (.ref 865), (.ref 866), (.int (1336) 0), (.int (436) 0), (.str (Str.ofString "/claim/cut.py") 1337)]), #[]⟩) ::
  (nat_lit 868, ⟨(.type "function"), none, (.func (fD (nth Bd 93) (Str.ofString "_law_lone") .none .none .none (.str (Str.ofString "law_on0276_01") 1244) none (.ref 867) .none)), #[]⟩) ::
  (nat_lit 872, ⟨(.type "code"), none, (.fields #[(.str (Str.ofString "_law_pair") 1339), (.str (Str.ofString "_law_pair") 1340), (.str (Str.ofString "/claim/cut.py") 1341), (.int (449) 0), (.int (3) 0), (.int (0) 0), (.int (0) 0), (.int (3) 0), (.ref 869), (.bool true), (.int (181) 0), (.ref 870), .none, .none, .none, (.ref 871), (.int (1342) 0), (.int (449) 0), (.str (Str.ofString "/claim/cut.py") 1343)]), #[]⟩) ::
  (nat_lit 873, ⟨(.type "function"), none, (.func (fD (nth Bd 94) (Str.ofString "_law_pair") .none .none .none (.str (Str.ofString "law_on0276_01") 1244) none (.ref 872) .none)), #[]⟩) ::
  (nat_lit 877, ⟨(.type "code"), none, (.fields #[(.str (Str.ofString "_law_due") 1345), (.str (Str.ofString "_law_due") 1346), (.str (Str.ofString "/claim/cut.py") 1347), (.int (461) 0), (.int (2) 0), (.int (0) 0), (.int (0) 0), (.int (3) 0), (.ref 874), (.bool true), (.int (181) 0), (.ref 875), .none, .none, .none, (.ref 876), (.int (1348) 0), (.int (461) 0), (.str (Str.ofString "/claim/cut.py") 1349)]), #[]⟩) ::
  (nat_lit 878, ⟨(.type "function"), none, (.func (fD (nth Bd 95) (Str.ofString "_law_due") .none .none .none (.str (Str.ofString "law_on0276_01") 1244) none (.ref 877) .none)), #[]⟩) ::
  (nat_lit 884, ⟨(.type "code"), none, (.fields #[(.str (Str.ofString "_law_called") 1351), (.str (Str.ofString "_law_called") 1352), (.str (Str.ofString "/claim/cut.py") 1353), (.int (483) 0), (.int (2) 0), (.int (0) 0), (.int (0) 0), (.int (3) 0), (.ref 879), (.bool true), (.int (181) 0), (.ref 880), .none, (.ref 881), (.ref 882), (.ref 883), (.int (1356) 0), (.int (483) 0), (.str (Str.ofString "/claim/cut.py") 1357)]), #[]⟩) ::
  (nat_lit 885, ⟨(.type "function"), none, (.func (fD (nth Bd 96) (Str.ofString "_law_called") .none .none .none (.str (Str.ofString "law_on0276_01") 1244) none (.ref 884) .none)), #[]⟩) ::
  (nat_lit 889, ⟨(.type "code"), none, (.fields #[(.str (Str.ofString "_law_heard") 1359), (.str (Str.ofString "_law_heard") 1360), (.str (Str.ofString "/claim/cut.py") 1361), (.int (502) 0), (.int (2) 0), (.int (0) 0), (.int (0) 0), (.int (3) 0), (.ref 886), (.bool true), (.int (181) 0), (.ref 887), .none, .none, .none, (.ref 888), (.int (1362) 0), (.int (502) 0), (.str (Str.ofString "/claim/cut.py") 1363)]), #[]⟩) ::
  (nat_lit 890, ⟨(.type "function"), none, (.func (fD (nth Bd 97) (Str.ofString "_law_heard") .none .none .none (.str (Str.ofString "law_on0276_01") 1244) none (.ref 889) .none)), #[]⟩) ::
  (nat_lit 894, ⟨(.type "code"), none, (.fields #[(.str (Str.ofString "law") 1365), (.str (Str.ofString "law") 1366), (.str (Str.ofString "/claim/cut.py") 1367), (.int (511) 0), (.int (1) 0), (.int (0) 0), (.int (0) 0), (.int (3) 0), (.ref 891), (.bool true), (.int (181) 0), (.ref 892), .none, .none, .none, (.ref 893), (.int (1368) 0), (.int (511) 0), (.str (Str.ofString "/claim/cut.py") 1369)]), #[]⟩) ::
  (nat_lit 895, ⟨(.type "function"), none, (.func (fD (nth Bd 98) (Str.ofString "law") .none .none .none (.str (Str.ofString "law_on0276_01") 1244) none (.ref 894) .none)), #[]⟩) :: []

noncomputable def Ka : List Addr := nat_lit 2 :: nat_lit 3 :: nat_lit 29 :: nat_lit 35 :: nat_lit 36 :: nat_lit 38 :: nat_lit 39 :: nat_lit 51 :: nat_lit 52 :: nat_lit 60 :: nat_lit 61 :: nat_lit 67 :: nat_lit 68 :: nat_lit 74 :: nat_lit 75 :: nat_lit 81 :: nat_lit 82 :: nat_lit 88 :: nat_lit 89 :: nat_lit 95 :: nat_lit 96 :: nat_lit 102 :: nat_lit 103 :: nat_lit 109 :: nat_lit 110 :: nat_lit 116 :: nat_lit 117 :: nat_lit 123 :: nat_lit 124 :: nat_lit 130 :: nat_lit 131 :: nat_lit 137 :: nat_lit 138 :: nat_lit 144 :: nat_lit 145 :: nat_lit 151 :: nat_lit 152 :: nat_lit 158 :: nat_lit 159 :: nat_lit 165 :: nat_lit 166 :: nat_lit 172 :: nat_lit 173 :: nat_lit 179 :: nat_lit 180 :: nat_lit 188 :: nat_lit 194 :: nat_lit 195 :: nat_lit 197 :: nat_lit 198 :: nat_lit 208 :: nat_lit 209 :: nat_lit 215 :: nat_lit 216 :: nat_lit 222 :: nat_lit 223 :: nat_lit 229 :: nat_lit 230 :: nat_lit 236 :: nat_lit 237 :: nat_lit 243 :: nat_lit 244 :: nat_lit 278 :: nat_lit 279 :: nat_lit 285 :: nat_lit 286 :: nat_lit 292 :: nat_lit 293 :: nat_lit 294 :: nat_lit 307 :: nat_lit 308 :: nat_lit 314 :: nat_lit 315 :: nat_lit 316 :: nat_lit 322 :: nat_lit 323 :: nat_lit 336 :: nat_lit 337 :: nat_lit 343 :: nat_lit 344 :: nat_lit 350 :: nat_lit 351 :: nat_lit 395 :: nat_lit 396 :: nat_lit 406 :: nat_lit 407 :: nat_lit 413 :: nat_lit 414 :: nat_lit 420 :: nat_lit 421 :: nat_lit 427 :: nat_lit 428 :: nat_lit 434 :: nat_lit 435 :: nat_lit 441 :: nat_lit 442 :: nat_lit 448 :: nat_lit 449 :: nat_lit 455 :: nat_lit 456 :: nat_lit 462 :: nat_lit 463 :: nat_lit 469 :: nat_lit 470 :: nat_lit 476 :: nat_lit 477 :: nat_lit 483 :: nat_lit 484 :: nat_lit 490 :: nat_lit 491 :: nat_lit 497 :: nat_lit 498 :: nat_lit 504 :: nat_lit 505 :: nat_lit 511 :: nat_lit 512 :: nat_lit 518 :: nat_lit 519 :: nat_lit 525 :: nat_lit 526 :: nat_lit 532 :: nat_lit 533 :: nat_lit 539 :: nat_lit 540 :: nat_lit 546 :: nat_lit 547 :: nat_lit 553 :: nat_lit 554 :: nat_lit 560 :: nat_lit 561 :: nat_lit 567 :: nat_lit 568 :: nat_lit 574 :: nat_lit 575 :: nat_lit 581 :: nat_lit 582 :: nat_lit 588 :: nat_lit 589 :: nat_lit 595 :: nat_lit 596 :: nat_lit 609 :: nat_lit 610 :: nat_lit 616 :: nat_lit 617 :: nat_lit 790 :: nat_lit 791 :: nat_lit 803 :: nat_lit 809 :: nat_lit 810 :: nat_lit 812 :: nat_lit 813 :: nat_lit 818 :: nat_lit 819 :: nat_lit 825 :: nat_lit 826 :: nat_lit 832 :: nat_lit 833 :: nat_lit 839 :: nat_lit 840 :: nat_lit 846 :: nat_lit 847 :: nat_lit 853 :: nat_lit 854 :: nat_lit 860 :: nat_lit 861 :: nat_lit 867 :: nat_lit 868 :: nat_lit 872 :: nat_lit 873 :: nat_lit 877 :: nat_lit 878 :: nat_lit 884 :: nat_lit 885 :: nat_lit 889 :: nat_lit 890 :: nat_lit 894 :: nat_lit 895 :: []
theorem Ka_is : ∀ P, Ka = (Kp P).map (·.1) := fun _ => by kernel_rfl
end
open PySem PySem.W PyProof.Rows PySem.Spec PySem.Calls
theorem fillAll : (fun (_ : Params → Frag) => (fun (_ : OpenLaw) => True)) Kp PySem.Challenge.rw_on0276_01 := by
  k_with "units" => (first | ((try dsimp +zetaDelta only [units_in1, units_deeper, Around.mark_units, units_caller]); first | exact rm0 (by assumption) | exact rm1 (by assumption) rfl | exact rm2 (by assumption) rfl | exact rm3 (by assumption) rfl) | ktr_units | (dsimp +zetaDelta only; ktr_units))
  k_with "room" => (first | ((try dsimp +zetaDelta only [depth_under_make, depth_under_kw, depth_in1, depth_deeper, depth_caller]); first | exact rm0 (by assumption) | exact rm1 (by assumption) rfl | exact rm2 (by assumption) rfl | exact rm3 (by assumption) rfl) | ktr_room | (dsimp +zetaDelta only; ktr_room))
  k_with "bnd" => (first | assumption | exact Tn.big (by assumption) | exact Tn.sm (by assumption) | exact Sm.big (by assumption) | exact ⟨by decide, by decide⟩ | (constructor <;> omega))
  k_fill
  trivial
section
variable {prog : Program} {w : World} {A A₀ : Around} {E : Value → Shared → Prop} {s : Shared} {K : Frag} {C L : Addr} {h₀ base : Heap} {m mg mb : Str → Option Value} {news : List (Addr × Obj)} {p : Program} {loose : List Str} {mean : ExcName → Option Value} {Q : Value → Shared → Prop}
/-- a def is entered: the tokens behind it are any -/
theorem code_defL {env : Env} {outer : List Env} {R : Result → Shared → Prop} {name qual : Str} {params : Arguments} {body : List Stmt} {scope : Scope} {dV kV doc pm cdv ct oc : Value} {an od : Option Addr} {osl : Array (Option Value)} {f : Addr} {args : Args} {binds : List (Str × Value)}
    (B : Below A₀ base outer h₀) (F : Fr h₀ L s.heap m) (X₀ : K.In h₀) (N : News h₀ L s.heap news) (T : Top p loose mean mg mb h₀) (hA : A.frames = some (env :: outer)) (hf : env.frame = some L) (hke : env.scope.kind = .function)
    (ho : K.lookup f = some ⟨oc, od, .func (fnOf name qual params body scope dV kV doc pm an cdv ct), osl⟩) (hcd : codeIn K cdv qual = true) (hroom : A.depth < recursionLimit)
    (hbind : BindsTo s (fnOf name qual params body scope dV kV doc pm an cdv ct) args binds) (hloc : ∀ y ∈ binds, scope.names.lookup y.1 = some .local)
    (h : ∀ g L' h₁ tk₁, Fr h₀ L g m → Fr g L' h₁ (fun y => binds.reverse.lookup y) → News g L' h₁ news → Below A base (env :: outer) g → K.In g → Top p loose mean mg mb g →
      (let e₁ := envOf qual scope L' f cdv; let A₁ := A.deeper e₁
      wpAny (model prog w) A₁ (execs body e₁)
        (fun fl s' => LeaveK h₀ L m g R (match fl with | .ret v => v | _ => .none) s')
        (fun e s' => wpAny (model prog w) A₁ (leaving e₁ e) (fun _ s'' => R (.error e) s'') (fun e' s'' => R (.error e') s'') s')
        { s with heap := h₁, toks := tk₁ }))
    (hco : scope.isCoroutine = false) (hgen : scope.isGenerator = false) (hk : scope.kind = .function)
    (hcell : ∀ x ∈ scope.names, x.2 ≠ .cell) : codeAny (model prog w) A (.call (.ref f) args) R s :=
  code_def B F X₀ N T hA hf hke ho hcd hroom hbind hloc (fun g L' h₁ => h g L' h₁ _) hco hgen hk hcell
end
theorem rm0 {d j n : Nat} (h : d + j < n) : d < n := Nat.lt_of_le_of_lt (Nat.le_add_right d j) h
theorem rm1 {d a j n : Nat} (h : d + j < n) (hk : Nat.ble a j = true) : d + a < n := Nat.lt_of_le_of_lt (Nat.add_le_add_left (Nat.le_of_ble_eq_true hk) d) h
theorem rm2 {d a b j n : Nat} (h : d + j < n) (hk : Nat.ble (a + b) j = true) : d + a + b < n := by rw [Nat.add_assoc]; exact rm1 h hk
theorem rm3 {d a b c j n : Nat} (h : d + j < n) (hk : Nat.ble (a + b + c) j = true) : d + a + b + c < n := by rw [Nat.add_assoc, Nat.add_assoc, ← Nat.add_assoc a]; exact rm1 h hk
/-- an expression that makes nothing: its value, and the tokens behind it -/
structure Ev (M : Model) (A : Around) (E : Value → Shared → Prop) (env : Env) (s : Shared) (hp : Heap) (t : Nat) (e : Expr) (v : Value) (t' : Nat) : Prop where
  mk ::
  p1 : ∀ es, starEach (e :: es) env = (false, eval e env) :: starEach es env
  p2 : ∀ Q : Value → Shared → Prop, Q v ⟨hp, s.gens, s.drawn, t', s.os⟩ → wpAny M A (eval e env) Q E ⟨hp, s.gens, s.drawn, t, s.os⟩
structure EvL (M : Model) (A : Around) (E : Value → Shared → Prop) (env : Env) (s : Shared) (hp : Heap) (t : Nat) (es : List Expr) (vs : List Value) (t' : Nat) : Prop where
  mk ::
  p1 : ∀ pos, (backTo pos (starEach es env)).any (·.1) = false
  p2 : ∀ (pos : Pos) (Q : List Value → Shared → Prop), Q vs ⟨hp, s.gens, s.drawn, t', s.os⟩ → wpAny M A (spliced (backTo pos (starEach es env))) Q E ⟨hp, s.gens, s.drawn, t, s.os⟩
section
variable {M : Model} {A : Around} {E : Value → Shared → Prop} {env : Env} {s : Shared} {hp : Heap} {t0 t t1 t2 : Nat} {e : Expr} {es : List Expr} {v : Value} {vs : List Value} {Q : Value → Shared → Prop}
  {h₀ : Heap} {L a : Addr} {m mg mb : Str → Option Value} {cn : Str} {cs : Scope} {ccd : Value} {cl : List (Str × Addr)} {x : Str} {pos xp : Pos} {K : Frag} {p : Program} {loose : List Str} {i : Int} {k : Nat} {c : Str}
  {prog : Program} {w : World} {news : List (Addr × Obj)}
theorem Ev.use (h : Ev M A E env s hp t0 e v t) (q : Q v ⟨hp, s.gens, s.drawn, t, s.os⟩) : wpAny M A (eval e env) Q E ⟨hp, s.gens, s.drawn, t0, s.os⟩ := h.p2 Q q
theorem Ev.loc (F : Fr h₀ L hp m) (hk : cs.kind = .function) (hx : (envX cn cs L a ccd cl).kindOf x = some .local) (hv : m x = some v) (hd : (x == Str.ofString "__debug__") = false) :
    Ev M A E (envX cn cs L a ccd cl) s hp t (.Name x pos) v t := ⟨fun _ => rfl, fun _ q => nameX_L (s := ⟨hp, s.gens, s.drawn, t, s.os⟩) F hv q hk hx hd⟩
theorem Ev.glo (F : Fr h₀ L hp m) (X : K.In h₀) (T : TopRead p loose mg mb h₀) (hv : nsIn K mainGlobals x = some (some v)) (hk : cs.kind = .function) (hx : (envX cn cs L a ccd cl).kindOf x = some .globalImplicit) (hd : (x == Str.ofString "__debug__") = false) :
    Ev M A E (envX cn cs L a ccd cl) s hp t (.Name x pos) v t := ⟨fun _ => rfl, fun _ q => nameX_K (s := ⟨hp, s.gens, s.drawn, t, s.os⟩) F X T hv q hk hx hd⟩
theorem Ev.int : Ev M A E env s hp t (.Constant (.int i) k pos) (.int i t) (t + 1) := ⟨fun _ => rfl, fun _ q => wpAny_Constant_int (s := ⟨hp, s.gens, s.drawn, t, s.os⟩) q⟩
theorem Ev.str : Ev M A E env s hp t (.Constant (.str c) k pos) (.str c t) (t + 1) := ⟨fun _ => rfl, fun _ q => Constant_str (s := ⟨hp, s.gens, s.drawn, t, s.os⟩) q⟩
theorem EvL.nil : EvL M A E env s hp t [] [] t := ⟨fun _ => rfl, fun _ _ q => args_nil (s := ⟨hp, s.gens, s.drawn, t, s.os⟩) q⟩
theorem EvL.cons (h : Ev M A E env s hp t e v t1) (hs : EvL M A E env s hp t1 es vs t2) : EvL M A E env s hp t (e :: es) (v :: vs) t2 :=
  ⟨fun pos => by rw [h.p1]; exact hs.p1 pos, fun pos _ q => args_cons (s := ⟨hp, s.gens, s.drawn, t, s.os⟩) (h.p2 _ (hs.p2 pos _ q)) (h.p1 _)⟩
theorem call_E {f : Str} {fp : Pos} {v1 : Value} (F : Fr h₀ L hp m) (X : K.In h₀) (T : TopRead p loose mg mb h₀) (hv : nsIn K mainGlobals f = some (some v)) (hk : cs.kind = .function) (hx : (envX cn cs L a ccd cl).kindOf f = some .globalImplicit)
    (hd : (f == Str.ofString "__debug__") = false) (hkeep : keepIn K v = true) (h1 : Ev M A E (envX cn cs L a ccd cl) s hp t0 e v1 t1) (hs : EvL M A E (envX cn cs L a ccd cl) s hp t1 es vs t)
    (h : wpAny M A (call v (v1 :: vs)) Q E ⟨hp, s.gens, s.drawn, t, s.os⟩) :
    wpAny M A (eval (.Call (.Name f fp) (e :: es) [] pos) (envX cn cs L a ccd cl)) Q E ⟨hp, s.gens, s.drawn, t0, s.os⟩ :=
  Call_ (nameX_K F X T hv (callWith_K X hkeep (args_cons (h1.p2 _ (hs.p2 _ _ ⟨X.keeps F.keep, h⟩)) (h1.p1 _)) (h1.p1 _) (hs.p1 _)) hk hx hd)
theorem Ev.sub0 {tp : Addr} {y z : Value} {n kk : Nat} {kp : Pos} (ho : Ev (model prog w) A E env s hp t e (.ref tp) t1) (N : News h₀ L hp news) (hm : (tp, ({ cls := .type "tuple", data := .seq #[y, z] n } : Obj)) ∈ news) :
    Ev (model prog w) A E env s hp t (.Subscript e (.Constant (.int 0) kk kp) pos) y (t1 + 1) :=
  ⟨fun _ => rfl, fun Q q => Subscript_ (s := ⟨hp, s.gens, s.drawn, t, s.os⟩) (ho.p2 _ (wpAny_Constant_int (item_tupleT (l := [y, z]) (j := 0) (News.isTup (h := hp) N hm) (by decide) (by decide) rfl rfl q (by with_unfolding_all rfl))))⟩
theorem Ev.sub1 {tp : Addr} {y z : Value} {n kk : Nat} {kp : Pos} (ho : Ev (model prog w) A E env s hp t e (.ref tp) t1) (N : News h₀ L hp news) (hm : (tp, ({ cls := .type "tuple", data := .seq #[y, z] n } : Obj)) ∈ news) :
    Ev (model prog w) A E env s hp t (.Subscript e (.Constant (.int 1) kk kp) pos) z (t1 + 1) :=
  ⟨fun _ => rfl, fun Q q => Subscript_ (s := ⟨hp, s.gens, s.drawn, t, s.os⟩) (ho.p2 _ (wpAny_Constant_int (item_tupleT (l := [y, z]) (j := 1) (News.isTup (h := hp) N hm) (by decide) (by decide) rfl rfl q (by with_unfolding_all rfl))))⟩
theorem Ev.att {x' C : Addr} {ox : Obj} {es : List DictEntry} {n : Nat} {attr : Str} {fa : Option Value} (F : Fr h₀ L hp m) (X : K.In h₀) (ho : Ev (model prog w) A E env s hp t (.Name x xp) (.ref x') t1)
    (I : InstAt hp x' ox C (some (dictOf es n))) (hg : plainGet K C attr = true) (hh : hasDictIn K C = true) (ha : findIn K (.ref C) attr = some fa) (hn : noGet K fa = true) (hl : getL attr es = some (some v)) (hv : handedIn v = true) :
    Ev (model prog w) A E env s hp t (.Attribute (.Name x xp) attr pos) v (t1 + 1) :=
  ⟨fun _ => rfl, fun Q q => Attribute_Name_ (s := ⟨hp, s.gens, s.drawn, t, s.os⟩) (ho.p2 _ (get_own (s := ⟨hp, s.gens, s.drawn, t1, s.os⟩) F X I hg hh ha hn hl hv q))⟩
theorem att_E {x' C : Addr} {ox : Obj} {es : List DictEntry} {n : Nat} {attr : Str} {fa : Option Value} (F : Fr h₀ L hp m) (X : K.In h₀) (ho : Ev (model prog w) A E env s hp t0 (.Name x xp) (.ref x') t1)
    (I : InstAt hp x' ox C (some (dictOf es n))) (hg : plainGet K C attr = true) (hh : hasDictIn K C = true) (ha : findIn K (.ref C) attr = some fa) (hn : noGet K fa = true) (hl : getL attr es = some (some v)) (hv : handedIn v = true)
    (q : Q v ⟨hp, s.gens, s.drawn, t1 + 1, s.os⟩) : wpAny (model prog w) A (eval (.Attribute (.Name x xp) attr pos) env) Q E ⟨hp, s.gens, s.drawn, t0, s.os⟩ :=
  (Ev.att F X ho I hg hh ha hn hl hv).use q
/-- both operands are such -/
theorem bin_E {l r : Expr} {va vb : Value} {op : Operator} (h1 : Ev M A E env s hp t0 l va t1) (h2 : Ev M A E env s hp t1 r vb t2) (h : wpAny M A (binaryOp op va vb) Q E ⟨hp, s.gens, s.drawn, t2, s.os⟩) : wpAny M A (eval (.BinOp l op r pos) env) Q E ⟨hp, s.gens, s.drawn, t0, s.os⟩ :=
  wpAny_BinOp (h1.p2 _ (h2.p2 _ h))
theorem cmp_E {l r : Expr} {va vb : Value} {op : CmpOp} (h1 : Ev M A E env s hp t0 l va t1) (h2 : Ev M A E env s hp t1 r vb t2) (h : wpAny M A (compareOp op va vb) Q E ⟨hp, s.gens, s.drawn, t2, s.os⟩) (hm : behindInMarks op r = false) : wpAny M A (eval (.Compare l [op] [r] pos) env) Q E ⟨hp, s.gens, s.drawn, t0, s.os⟩ :=
  wpAny_Compare1 (h1.p2 _ (h2.p2 _ h)) hm
theorem isT_E {l r : Expr} {va vb : Value} {op : CmpOp} {whole : Sem Value} {Q : Bool → Shared → Prop} (h1 : Ev M A E env s hp t0 l va t1) (h2 : Ev M A E env s hp t1 r vb t2)
    (h : wpAny M A (compareOp op va vb) (fun c s₃ => wpAny M A (truthy c) Q E s₃) E ⟨hp, s.gens, s.drawn, t2, s.os⟩) (hm : behindInMarks op r = false) : wpAny M A (PySem.isTrue (.Compare l [op] [r] pos) env whole) Q E ⟨hp, s.gens, s.drawn, t0, s.os⟩ :=
  wpAny_isTrue_Compare1 (h1.p2 _ (h2.p2 _ h)) hm
theorem isT_eqs {l r : Expr} {xa xb : Str} {ta tb : Tok} {whole : Sem Value} {Q : Bool → Shared → Prop} (h1 : Ev (model prog w) A E env s hp t0 l (.str xa ta) t1) (h2 : Ev (model prog w) A E env s hp t1 r (.str xb tb) t2)
    (h : Q (xa == xb) ⟨hp, s.gens, s.drawn, t2, s.os⟩) (hm : behindInMarks .Eq r = false) : wpAny (model prog w) A (PySem.isTrue (.Compare l [.Eq] [r] pos) env whole) Q E ⟨hp, s.gens, s.drawn, t0, s.os⟩ :=
  isT_E h1 h2 (PyProof.Rows.eq_str (wpAny_truthy_bool h)) hm
theorem isT_lt {l r : Expr} {xa xb : Int} {ta tb : Tok} {whole : Sem Value} {Q : Bool → Shared → Prop} (h1 : Ev (model prog w) A E env s hp t0 l (.int xa ta) t1) (h2 : Ev (model prog w) A E env s hp t1 r (.int xb tb) t2)
    (h : Q (decide (xa < xb)) ⟨hp, s.gens, s.drawn, t2, s.os⟩) (hm : behindInMarks .Lt r = false) : wpAny (model prog w) A (PySem.isTrue (.Compare l [.Lt] [r] pos) env whole) Q E ⟨hp, s.gens, s.drawn, t0, s.os⟩ :=
  isT_E h1 h2 (lt_int (wpAny_truthy_bool h)) hm
theorem tup_E (F : Fr h₀ L hp m) (N : News h₀ L hp news) {n : Nat} (ha : EvL M A E env s hp t0 es vs t) (hz : vs.length ≤ sizeLine)
    (h : ∀ D h', Fr h₀ L h' m → News h₀ L h' ((D, ({ cls := .type "tuple", data := .seq vs.toArray } : Obj)) :: news) → (∀ p ∈ news, p.1 < D) → Q (.ref D) ⟨h', s.gens, s.drawn, t, s.os⟩) :
    wpAny M A (eval (.Tuple es n pos) env) Q E ⟨hp, s.gens, s.drawn, t0, s.os⟩ := Tuple_ (ha.p2 _ _ (kup_newTuple (s := ⟨hp, s.gens, s.drawn, t, s.os⟩) F N h hz))
theorem unpack2 {x y : Str} {p1 p2 : Pos} {tp : Addr} {va vb : Value} {n k : Nat} {Q : Unit → Shared → Prop} (F : Fr h₀ L hp m) (N : News h₀ L hp news) (hm : (tp, ({ cls := .type "tuple", data := .seq #[va, vb] n } : Obj)) ∈ news) (hA : A.handled = none)
    (hk : cs.kind = .function) (hx : (envX cn cs L a ccd cl).kindOf x = some .local) (hy : (envX cn cs L a ccd cl).kindOf y = some .local)
    (h : ∀ h', Fr h₀ L h' (fun z => if z = y then some vb else if z = x then some va else m z) → News h₀ L h' news → Q () ⟨h', s.gens, s.drawn, t0 + 1 + 1, s.os⟩) :
    wpAny (model prog w) A (assign (.Tuple [.Name x p1, .Name y p2] k pos) (envX cn cs L a ccd cl) (.ref tp)) Q E ⟨hp, s.gens, s.drawn, t0, s.os⟩ :=
  unpackN_ F N (News.isTup N hm) hA rfl rfl (fun _ F' N' => assignInOrder_cons (PyProof.Rows.assign_Name (storeX_L F' N' (fun _ F2 N2 => assignInOrder_cons (PyProof.Rows.assign_Name (storeX_L F2 N2 (fun h3 F3 N3 => assignInOrder_nil (h h3 F3 N3)) hk hy))) hk hx)))
end
theorem item_tn {prog : Program} {w : World} {A : Around} {E : Value → Shared → Prop} {s : Shared} {h₀ : Heap} {L : Addr} {news : List (Addr × Obj)} {value slice : Expr} {t : Addr} {l : List Value} {n : Nat} {k : Int} {u : Tok} {j : Nat} {x : Value} {Q : Value → Shared → Prop}
    (N : News h₀ L s.heap news) (hm : (t, ({ cls := .type "tuple", data := .seq l.toArray n } : Obj)) ∈ news) (hj : seqIndex? k l.length = some j) (hlo : -(2 ^ 63) ≤ k) (hhi : k < 2 ^ 63) (hx : l[j]? = some x) (h : Q x s)
    (hs : subscripted slice false (.ref t) (.int k u) = operate [.ref t, .int k u] (getItem (.ref t) (.int k u)) := by with_unfolding_all rfl) :
    wpAny (model prog w) A (subscriptTail value slice (.ref t) (.int k u)) Q E s :=
  item_tupleT ⟨_, (N _ hm).1, rfl, _, rfl⟩ hlo hhi hj hx h hs
section
open PySem PySem.W PyProof.Rows PySem.Spec PySem.Calls Builtin Builtin.ObjectAttr
section
variable {prog : Program} {w : World} {A : Around} {E : Value → Shared → Prop} {s : Shared}

theorem bga_look : findIn (Kp w.params) (.ref 52) "__getattribute__" = some (some (.builtin "BaseException.__getattribute__")) := by kernel_rfl
theorem told_look : findIn (Kp w.params) (.ref 52) "told" = some none := by kernel_rfl
theorem gta_look : findIn (Kp w.params) (.ref 52) "__getattr__" = some none := by kernel_rfl
theorem ps_base : mroIn (Kp w.params) 52 (.type "BaseException") = some true := by kernel_rfl
theorem bga_plain : plainId "BaseException.__getattribute__" = true := by decide +kernel
theorem bga_kind : builtinKind "BaseException.__getattribute__" = some .slot := by decide +kernel
theorem bga_split : splitId "BaseException.__getattribute__" = some ("BaseException", "__getattribute__") := by decide +kernel
theorem bga_bind (self : Value) : bindSpecial (.builtin "BaseException.__getattribute__") self = pure (.builtin "BaseException.__getattribute__", [self]) := by
  have hop : withoutEnding? "BaseException.__getattribute__" "#opaque" = none := by decide +kernel
  have hdat : withoutEnding? "BaseException.__getattribute__" "#data" = none := by decide +kernel
  simp only [bindSpecial, typeOf, builtinType, hop, hdat, bga_kind]; rfl

theorem told_get {e d : Addr} {vs : Array Value} {tk : Tok} {n : Nat} {v : Value} {expr : Bool} {Q : Value → Shared → Prop} (X : (Kp w.params).In s.heap)
    (he : s.heap.get? e = some ⟨.ref 52, some d, .fields vs, #[]⟩) (hd : s.heap.get? d = some (dictOf [⟨PyData.keyHash w.params "told", .str "told" tk, v⟩] n)) (hv : handedIn v = true)
    (hq : Q v { s with toks := s.toks + 1 }) : wpAny (model prog w) A (getAttr (.ref e) "told" expr) Q E s := by
  have I : InstAt s.heap e ⟨.ref 52, some d, .fields vs, #[]⟩ 52 (some (dictOf [⟨PyData.keyHash w.params "told", .str "told" tk, v⟩] n)) := ⟨he, rfl, rfl, hd⟩
  have f : findObj (Kp w.params) 52 (some (dictOf [⟨PyData.keyHash w.params "told", .str "told" tk, v⟩] n)) "told" = some (.value v) :=
    findObj_own (by kernel_rfl) told_look (by kernel_rfl) (by kernel_rfl)
  have L := looks_find (M := model prog w) X I f
  have T := InstAt.type (M := model prog w) I
  have G := looks_findIn (M := model prog w) X bga_look
  have G2 := looks_findIn (M := model prog w) X gta_look
  have J : Looks (model prog w) s.heap (isInstance (.ref e) (.type "BaseException")) true := T.andThen (looks_mroIn X ps_base)
  obtain ⟨h, g, dr, t, os⟩ := s
  have hc : ∀ (A' : Around) (t' : Nat) (R : Result → Shared → Prop), R (.ok (.ret v)) ⟨h, g, dr, t', os⟩ →
      codeAny (model prog w) A' (.call (.builtin "BaseException.__getattribute__") ⟨[.ref e, .str "told" t], []⟩) R ⟨h, g, dr, t', os⟩ := by
    intro A' t' R hR
    refine codeAny_call_builtin bga_plain F.entry_bexc_ga (@check_slot (model prog w) _ _ _ "BaseException.__getattribute__" "BaseException" "__getattribute__" (.ref e) [.str "told" t] [] _ bga_kind bga_split J (F.args_bexc_ga _ _) ?_)
    unfold Builtin.«object.__getattribute__»
    repeat lk
    exact hR
  have ho : onTheHeap (Value.builtin "BaseException.__getattribute__") = false := by rfl
  have hf : (expr && onTheHeap (Value.builtin "BaseException.__getattribute__")) = false := by rw [ho, Bool.and_false]
  have fin : ∀ (A' : Around) (t' : Nat) (Q' : Value → Shared → Prop) (E' : Value → Shared → Prop), Q' v ⟨h, g, dr, t', os⟩ →
      wpAny (model prog w) A' (callGetattribute (.ref e) (.str "told" t) (.builtin "BaseException.__getattribute__") expr) Q' E' ⟨h, g, dr, t', os⟩ := by
    intro A' t' Q' E' hQ
    unfold callGetattribute boundAndCalled
    rw [hf, if_neg (by decide), bga_bind]
    refine wpAny_bind (wpAny_pure ?_)
    exact wpAny_call (hc _ _ _ hQ)
  unfold getAttr getAttrBy
  repeat (first | with_reducible refine wpAny_attempt ?_ | with_reducible refine fin _ _ _ _ ?_ | lk)
  show wpAny _ _ (handedOut v) _ _ _
  rw [handedOut_of hv]
  exact wpAny_pure hq

theorem osa_look : findIn (Kp w.params) (.ref 52) "__setattr__" = some (some (.builtin "object.__setattr__")) := by kernel_rfl
theorem ps_obj : mroIn (Kp w.params) 52 (.type "object") = some true := by kernel_rfl
theorem ps_cls : clsIn (Kp w.params) 52 = some ⟨Str.ofString "PsError", [.ref 39], [.ref 52, .ref 39, .type "Exception", .type "BaseException", .type "object"], 51, Str.ofString "PsError", true, [], [], false, none, false⟩ := by kernel_rfl
theorem ps_refuse (self : Value) : refuseLoop self "__setattr__" [.ref 52, .ref 39, .type "Exception", .type "BaseException", .type "object"] = pure () := by kernel_rfl

theorem told_set {e : Addr} {vs : Array Value} {v : Value} {news : List (Addr × Obj)} {h₀ : Heap} {L : Addr} {m : Str → Option Value} {Q : Unit → Shared → Prop} (X₀ : (Kp w.params).In h₀) (F : Fr h₀ L s.heap m)
    (N : News h₀ L s.heap ((e, ⟨.ref 52, none, .fields vs, #[]⟩) :: news)) (hn : ∀ p ∈ news, p.1 ≠ e)
    (hq : ∀ h' d tk, Fr h₀ L h' m → News h₀ L h' ((e, ⟨.ref 52, some d, .fields vs, #[]⟩) :: (d, dictOf [⟨PyData.keyHash w.params "told", .str "told" tk, v⟩] 1) :: news) → (∀ p ∈ news, p.1 < d) → e < d →
      Q () { s with heap := h', toks := s.toks + 2 }) : wpAny (model prog w) A (setAttr (.ref e) "told" v) Q E s := by
  have X := X₀.keeps F.keep
  have he : s.heap.get? e = some ⟨.ref 52, none, .fields vs, #[]⟩ := (N _ (.head _)).1
  have I : InstAt s.heap e ⟨.ref 52, none, .fields vs, #[]⟩ 52 none := ⟨he, rfl, rfl, trivial⟩
  have T := InstAt.type (M := model prog w) I
  have J : Looks (model prog w) s.heap (isInstance (.ref e) (.type "object")) true := T.andThen (looks_mroIn X ps_obj)
  have hm : Looks (model prog w) s.heap (mroOf (.ref 52)) _ := (looks_clsIn X ps_cls).andThen .now
  have hc := looks_clsIn (M := model prog w) X ps_cls
  have ht := looks_findIn (M := model prog w) X told_look
  refine set_plain X I osa_look ?_
  have SF := PySem.F.store_object
  obtain ⟨h, g, dr, t, os⟩ := s
  refine codeAny_call_builtin SF.slot.plain SF.entry (@check_slot (model prog w) _ _ _ "object.__setattr__" "object" "__setattr__" (.ref e) [.str "told" t, v] [] _ SF.kind SF.split J (SF.args (.ref e) (.str "told" t) v) ?_)
  rw [osa_eq, refuse_eq]
  refine wpAny_bind (wpAny_bind (T.at (wpAny_bind (hm.at ?_))))
  rw [ps_refuse]
  refine wpAny_pure (wpAny_bind (T.at (wpAny_bind (ht.at (wpAny_bind (wpAny_pure ?_))))))
  refine wpAny_bind (wpAny_pure (wpAny_bind (wpAny_bind (wpAny_loadPart he (wpAny_bind (hc.at ?_))))))
  show wpAny _ _ (alloc emptyDict >>= fun d => update e (fun o => { o with dict := some d }) >>= fun _ => dictMade (.ref 52) e d) _ _ _
  have F1 := F.push emptyDict
  have N1 := News.push F N emptyDict
  have hlt : ∀ p ∈ news, p.1 < h.objs.size := fun p hp => Heap.lt_size (N p (.tail _ hp)).1
  have hel : e < h.objs.size := Heap.lt_size he
  obtain ⟨F2, N2⟩ := news_upd (pre := [(h.objs.size, emptyDict)]) (post := news) (f := fun o => { o with dict := some h.objs.size }) F1 N1
    (fun p hp => by rw [List.mem_singleton.mp hp]; exact Nat.ne_of_gt hel) hn rfl rfl
  refine wpAny_bind (wpAny_alloc (wpAny_bind (wpAny_update (N1 _ (.tail _ (.head _))).1 (wpAny_pure (a := some h.objs.size) ?_))))
  obtain ⟨F3, N3⟩ := news_upd (pre := []) (post := (e, ⟨.ref 52, some h.objs.size, .fields vs, #[]⟩) :: news) (f := Obj.putName "told" (PyData.keyHash w.params "told") (.str "told" (t + 1)) v) F2 N2
    (fun p hp => nomatch hp) (fun p hp => by
      rcases List.mem_cons.mp hp with rfl | hp
      · exact Nat.ne_of_lt hel
      · exact Nat.ne_of_lt (hlt p hp)) (putName_dict _ _ _ _ [] 0) rfl
  have D2 := (N2 _ (.head _)).1
  have D3 := (N3 _ (.head _)).1
  refine wpAny_bind (wpAny_pure (wpAny_bind ?_))
  unfold nsSet
  refine wpAny_bind (wpAny_bind (wpAny_askSetting (wpAny_pure (wpAny_bind (wpAny_mkText (wpAny_bind (wpAny_loadPart D2 ?_)))))))
  dsimp only
  have c0 : aRefKeyMayBeTheName (Str.ofString "told") (List.toArray ([] : List DictEntry)) = false := by rw [aRefKeyMayBeTheName_at]; simp
  rw [c0]
  refine wpAny_updatePart D2 ?_
  refine wpAny_bind (wpAny_lookBehind D3 rfl ?_)
  refine wpAny_pure (hq _ h.objs.size (t + 1) F3 (fun p hp => ?_) hlt hel)
  rcases List.mem_cons.mp hp with rfl | hp
  · exact N3 _ (.tail _ (.head _))
  · rcases List.mem_cons.mp hp with rfl | hp
    · exact N3 _ (.head _)
    · exact N3 _ (.tail _ (.tail _ hp))
end

section
variable {prog : Program} {w : World} {A : Around} {E : Value → Shared → Prop} {s : Shared}

/-- the class object of PsError -/
abbrev psObj : Obj := excClassObj (Str.ofString "PsError") (Str.ofString "PsError") 52 51 [.ref 39] [.ref 39, .type "Exception", .type "BaseException", .type "object"] true [] [] false none none (some (.ref 43)) none (some (.str (Str.ofString "PsError") 238)) (some (.str (Str.ofString "PsError") 246)) (some (.bool true)) "Exception.__new__"
theorem ps_obj_at {h : Heap} (X : (Kp w.params).In h) : h.get? 52 = some psObj := X 52 _ (by kernel_rfl)
abbrev exObj (t0 : Addr) : Obj := { cls := .ref 52, data := .fields #[.ref t0, .none, .none, .none, .bool false, .none] }
abbrev tupOf (vs : List Value) : Obj := { cls := .type "tuple", data := .seq vs.toArray }

theorem ps_has : ((Value.ref 52) :: [.ref 39, .type "Exception", .type "BaseException", .type "object"]).contains (.type "Exception") = true := by decide +kernel
theorem ps_noA : ((Value.ref 52) :: [.ref 39, .type "Exception", .type "BaseException", .type "object"]).contains (.type "AttributeError") = false := by decide +kernel
theorem ps_noN : ((Value.ref 52) :: [.ref 39, .type "Exception", .type "BaseException", .type "object"]).contains (.type "NameError") = false := by decide +kernel
theorem ps_self : ((Value.ref 52) :: [.ref 39, .type "Exception", .type "BaseException", .type "object"]).contains (.ref 52) = true := by decide +kernel

theorem ps_new {h : Heap} {g : Array GenState} {d : Drawn} {t : Nat} {os : OsState} {R : Result → Shared → Prop} {v : Value} (hC : h.get? 52 = some psObj)
    (hq : R (.ok (.ret (.ref (h.objs.size + 1)))) ⟨(h.push (tupOf [v])).push (exObj h.objs.size), g, d, t, os⟩) :
    codeAny (model prog w) A (.builtin "Exception.__new__" ⟨[.ref 52, v], []⟩) R ⟨h, g, d, t, os⟩ := by
  have FE := PySem.F.excBase_Exception
  have hends := FE.ends
  refine codeAny_builtinAt FE.entry ?_
  unfold Builtin.«BaseException.__new__»
  refine PySem.wpAt_bind ?_
  show PySem.wpAt _ _ _ (stack >>= _) _ _ _
  refine PySem.wpAt_bind (PySem.wpAt_stack fun p below => PySem.wpAt_of_wpAny ?_)
  wp_walk
  refine PySem.wpAt_of_wpAny ?_
  rw [FE.owner]
  repeat (first | with_reducible refine wpAny_madeHere_exc FE.canon hC ?_ | with_reducible refine wpAny_loadPart_at hC ?_ | (with_reducible refine wpAny_isSubtype_exc hC ?_; first | rw [ps_has] | rw [ps_noA] | rw [ps_noN]) | wp_step)
  show R _ _
  rw [Heap.size_push]
  exact hq

theorem ps_check_new {h : Heap} {g : Array GenState} {d : Drawn} {t : Nat} {os : OsState} {v : Value} {Q : Unit → Shared → Prop} (hC : h.get? 52 = some psObj) (hq : Q () ⟨h, g, d, t, os⟩) :
    wpAny (model prog w) A (checkBuiltinCall "Exception.__new__" ⟨[.ref 52, v], []⟩) Q E ⟨h, g, d, t, os⟩ := by
  have FE := PySem.F.excBase_Exception
  have hstar := FE.noStar
  simp only [checkBuiltinCall, FE.newKind, FE.newSplit, FE.newRow]
  repeat (first | refine wpAny_loadPart_at hC ?_ | (refine wpAny_isSubtype_exc hC ?_; rw [ps_has]) | refine wpAny_staticBase_exc hC ?_ | refine wpAny_madeBy_exc hC ?_ | simp only [bne_self_eq_false, Bool.false_eq_true, if_false] | wp_step)
  exact hq

theorem ps_init : findIn (Kp w.params) (.ref 52) "__init__" = some (some (.ref 36)) := by kernel_rfl
theorem ps_fn : typeIn (Kp w.params) (.ref 36) = some (.type "function") := by kernel_rfl

theorem ps_call {v : Value} {news : List (Addr × Obj)} {h₀ : Heap} {L : Addr} {m : Str → Option Value} {Q : Value → Shared → Prop} (X₀ : (Kp w.params).In h₀) (F : Fr h₀ L s.heap m) (N : News h₀ L s.heap news)
    (hq : ∀ e t0 h', Fr h₀ L h' m → News h₀ L h' ((e, exObj t0) :: (t0, tupOf [v]) :: news) → (∀ p ∈ news, p.1 < t0) → t0 < e →
      wpAny (model prog w) (A.under (.builtin "type.__call__" ⟨[.ref 52, v], []⟩)) (call (.ref 36) [.ref e, v]) (fun r s' => r = .none ∧ Q (.ref e) s') E { s with heap := h' }) :
    wpAny (model prog w) A (call (.ref 52) [v]) Q E s := by
  have X := X₀.keeps F.keep
  obtain ⟨h, g, d, t, os⟩ := s
  have hC : h.get? 52 = some psObj := ps_obj_at X
  have f1 := tc_lookup
  have f2 := tc_bind (.ref 52)
  have hT : (⟨h, g, d, t, os⟩ : Shared).TypeIs (.ref 52) "type" := ⟨_, hC, rfl⟩
  refine wpAny_call (codeAny_of_tree ?_)
  show wpAny _ _ (callAny (.ref 52) _) _ _ _
  repeat (any_goals (first | assumption | with_reducible refine wpAny_loadPart_at hC ?_ | wp_step))
  refine ⟨rfl, ?_⟩
  refine codeAny_call_builtin_at (Code.quiet_builtin _ (by decide +kernel)) entry_typeCall (wpAny_check_type_call_sub hC ?_)
  have FE := PySem.F.excBase_Exception
  unfold Builtin.«type.__call__»
  repeat (first | with_reducible refine wpAny_loadPart_at hC ?_ | with_reducible refine wpAny_madeBy_exc hC ?_ | wp_step)
  refine codeAny_call_builtin_code (Code.quiet_builtin _ FE.quiet) (ps_check_new hC ?_)
  refine ps_new hC ?_
  show wpAny _ _ _ _ _ _
  have k2 : ∀ b o, h.get? b = some o → ((h.push (tupOf [v])).push (exObj h.objs.size)).get? b = some o := fun b o e => Heap.get?_push_of_some _ (Heap.get?_push_of_some _ e)
  have hC₁ := k2 _ _ hC
  have hget : ((h.push (tupOf [v])).push (exObj h.objs.size)).get? (h.objs.size + 1) = some (exObj h.objs.size) := by heap_get
  have X2 : (Kp w.params).In ((h.push (tupOf [v])).push (exObj h.objs.size)) := X.keeps k2
  have N2 := (N.push F (tupOf [v])).push (F.push _) (exObj h.objs.size)
  rw [Heap.size_push] at N2
  unfold isInstance
  repeat (first | with_reducible refine wpAny_loadPart_at hget ?_ | (with_reducible refine wpAny_isSubtype_exc hC₁ ?_; rw [ps_self]) | wp_step)
  show wpAny _ _ (typeLookup (.ref 52) _) _ _ _
  refine (looks_findIn (M := model prog w) X2 ps_init).at ?_
  refine wpAny_holding (wpAny_bind ((bind_fn X2 _ ps_fn).at (wpAny_bind (wpAny_mono (hq _ _ _ ((F.push _).push _) N2 (fun p hp => Heap.lt_size (N p hp).1) (Nat.lt_succ_self _)) (fun r s' hr => ?_) fun _ _ x => x))))
  obtain ⟨rfl, hQ⟩ := hr
  wp_walk
  exact hQ
end
end
section
open PySem PySem.W PyProof.Rows PySem.Spec PySem.Calls Builtin Builtin.ObjectAttr
abbrev Led := List (Addr × Obj)
abbrev exObjD (t0 d : Addr) : Obj := { cls := .ref 52, dict := some d, data := .fields #[.ref t0, .none, .none, .none, .bool false, .none] }
noncomputable abbrev toldD (w : World) (tk : Tok) (v : Value) : Obj := dictOf [⟨PyData.keyHash w.params "told", .str "told" tk, v⟩] 1
noncomputable abbrev Pg : Program := PySem.Challenge.rw_on0276_01.row.prog

theorem away {e t0 : Addr} {o : Obj} {news : Led} (l1 : ∀ p ∈ news, p.1 < t0) (l2 : t0 < e) : ∀ p ∈ ((t0, o) :: news), p.1 ≠ e := fun p hp => by
  rcases List.mem_cons.mp hp with rfl | hp
  · exact Nat.ne_of_lt l2
  · exact Nat.ne_of_lt (Nat.lt_trans (l1 p hp) l2)

theorem drop3 {h₀ h : Heap} {L : Addr} {x y z : Addr × Obj} {news : Led} (N : News h₀ L h (x :: y :: z :: news)) : News h₀ L h (x :: y :: news) := fun q hq => N q (by
  rcases List.mem_cons.mp hq with rfl | hq
  · exact .head _
  · rcases List.mem_cons.mp hq with rfl | hq
    · exact .tail _ (.head _)
    · exact .tail _ (.tail _ (.tail _ hq)))


theorem c_ps (w : World) (p : Program) (lo : List Str) (mean : ExcName → Option Value) (mg mb : Str → Option Value) (news : Led) (v : Value)
    (dp un : Nat) (gd : Option (List Code)) (cn : Str) (cs : Scope) (a : Addr) (ccd : Value) (cl : List (Str × Addr)) (outer : List Env) (A₀ : Around) (base h₀ : Heap) (L : Addr) (m : Str → Option Value) (s : Shared) (Q E : Value → Shared → Prop)
    (B : Below A₀ base outer h₀) (F : Fr h₀ L s.heap m) (X : (Kp w.params).In h₀) (N : News h₀ L s.heap news) (T : Top p lo mean mg mb h₀) (hk : cs.kind = .function) (hd : dp + 1 < recursionLimit) (hu : un + 16 < cLine)
    (ret : ∀ e t0 d tk h' tk', Fr h₀ L h' m → News h₀ L h' ((e, exObjD t0 d) :: (d, toldD w tk v) :: news) → (∀ p ∈ news, p.1 < e) → e < d → Q (.ref e) { s with heap := h', toks := tk' }) :
    wpAny (model Pg w) (ktrTop dp un gd cn cs L a ccd cl outer) (call (.ref 52) [v]) Q E s := wit (by exact Wit.get : Wit (by
  k_with "my k_room" => ((fail_if_success (k_extra "off1")); k_extra "room")
  k_with "my k_enter" => ((fail_if_success (k_extra "off1")); refine' code_defL (by k_asm) (by k_asm) (by k_asm) (by k_asm) (by k_asm) (by first | exact rfl | fail) (by first | exact rfl | fail) (by first | exact rfl | assumption | fail) (by k_is) (by k_is) (by first | k_room | fail) (by first | exact BindsTo.of_eq (binds := [(_, _)]) rfl | exact BindsTo.of_eq (binds := [(_, _), (_, _)]) rfl | exact BindsTo.of_eq (binds := [(_, _), (_, _), (_, _)]) rfl | exact BindsTo.of_eq rfl | exact binds_K (by k_in) rfl (by k_is) rfl rfl rfl | fail) (by first | exact locs rfl | fail) ?_ (by first | exact rfl | fail) (by first | exact rfl | fail) (by first | exact rfl | fail) (by first | decide | fail); k_whole; (try dsimp -zeta only); intro g'_k L'_k h'_k tk'_k FG'_k F'_k N'_k B'_k X'_k T'_k e'_k A'_k; (try k_lift B'_k); (try k_fold))
  k_with "my setAttr ref" => ((fail_if_success (k_extra "off1")); k_here; (with_reducible show wpAny _ _ (setAttr (Value.ref _) (PySem.Str.ofString "told") _) _ _ _); k_dflt (refine' told_set (by k_asm) (by k_asm) (by k_asm) (by first | exact away (by assumption) (by assumption) | fail) ?_); intro h'_k d'_k tk'_k F'_k N'_k l1_k l2_k; (try k_sweep))
  refine ps_call X F N (fun e t0 h1 F1 N1 l1 l2 => ?_)
  refine wpAny_call ?_
  k_dflt k_enter
  k_steps
  exact ret _ _ _ _ _ _ (by assumption) (drop3 (by assumption)) (fun q hq => Nat.lt_trans (l1 q hq) l2) (by assumption)))
end
section
open PySem PySem.W PyProof.Rows PySem.Spec PySem.Calls Builtin Builtin.ObjectAttr
/-- the exception e of class PsError with the dict d; its newest traceback's note of a frame in flight is fl -/
def Tr (h base : Heap) (e d : Addr) (fl : Value) : Prop :=
  ∃ (vs : Array Value) (T : Addr) (oT : Obj) (ts : Array Value), h.get? e = some ⟨.ref 52, some d, .fields vs, #[]⟩ ∧ vs[1]? = some (.ref T) ∧ base.get? T = none ∧ T ≠ e ∧ h.get? T = some oT ∧ oT.data = .fields ts ∧ ts[3]? = some fl ∧ vs[2]? = some .none
def Fly (base : Heap) (l : List Env) (e d : Addr) (h : Heap) : Prop := base.StaysIn h ∧ base.get? e = none ∧ h.FunFrames base l ∧ Tr h base e d .none
def Hld (base : Heap) (l : List Env) (e d L : Addr) (h : Heap) : Prop := base.StaysIn h ∧ base.get? e = none ∧ h.FunFrames base l ∧ Tr h base e d (rawInt L)

theorem notField {h : Heap} {b e : Addr} {o oe : Obj} {vs : Array Value} (he : h.get? e = some oe) (hd : oe.data = .fields vs) (hb : h.get? b = some o) (hn : ∀ ws, o.data ≠ .fields ws) : b ≠ e := fun q => by
  rw [q, he] at hb
  cases hb
  exact hn vs hd

section
variable {M : Model} {A : Around} {E : Value → Shared → Prop} {s : Shared} {base : Heap} {env : Env} {outer : List Env} {L e d : Addr}

theorem entry_ps {vs : Array Value} {head : Value} {hadNext : Bool} {Q : Unit → Shared → Prop} (hfr : A.frames = some (env :: outer)) (hl : s.heap.FunFrames base (env :: outer)) (hf : env.frame = some L)
    (he : s.heap.get? e = some ⟨.ref 52, some d, .fields vs, #[]⟩) (hkb : base.StaysIn s.heap) (hen : base.get? e = none) (hsz : 1 < vs.size) (h2 : vs[2]? = some .none)
    (h : ∀ h', base.StaysIn h' → h'.FunFrames base (env :: outer) → Tr h' base e d (rawInt L) → s.heap.UpToSlots h' → Q () { s with heap := h' }) :
    wpAny M A (do let a ← frameOf env; let pl ← entryPlaceOf L hadNext; let b ← EntryCells.newEntry head a .none (rawInt L) .none pl; setField (.ref e) 1 b) Q E s := by
  k_with "off1" => skip
  have hene : e ∉ (env :: outer).filterMap (·.frame) := fun hm => by
    obtain ⟨_, o, ho, hnf⟩ := hl.mem hm
    rw [he] at ho
    cases ho
    exact hnf vs rfl
  refine wpAny_bind (wpAny_frameOf_fun hfr hl hf fun h₁ hs₁ => ?_)
  refine wpAny_bind (wpAny_entryPlaceOf fun pl hpl => ?_)
  unfold EntryCells.newEntry newFields
  refine wpAny_bind (wpAny_newObj_type ?_ (hpl.sizeOk5 _ _ _ _ _))
  have e1 : h₁.get? e = some ⟨.ref 52, some d, .fields vs, #[]⟩ := (hs₁.2.1 e hene).trans he
  have b1 : base.StaysIn h₁ := fun b o hbo => (hs₁.2.1 b fun hm => by rw [(hl.mem hm).1] at hbo; cases hbo).trans (hkb b o hbo)
  generalize hx : ({ cls := .type "traceback", dict := none, data := .fields ([head, .ref L, .none, rawInt L, .none] ++ (if pl.isEmpty then List.replicate 6 Value.none else pl)).toArray } : Obj) = tb
  have e2 : (h₁.push tb).get? e = some ⟨.ref 52, some d, .fields vs, #[]⟩ := Heap.get?_push_of_some tb e1
  have hTe : h₁.objs.size ≠ e := Nat.ne_of_gt (Heap.lt_size e1)
  refine wpAny_setField e2 rfl hsz (h _ ?_ ?_ ?_ ?_)
  · intro b o hbo
    rw [Heap.get?_update_other _ _ (fun q : e = b => by rw [q, hbo] at hen; cases hen)]
    exact Heap.get?_push_of_some _ (b1 b o hbo)
  · refine hl.of_keeps fun b o hb hnf => ?_
    obtain ⟨sl, hs⟩ := hs₁.2.2 b o hb
    refine ⟨{ o with slots := sl }, ?_, rfl⟩
    rw [Heap.get?_update_other _ _ (Ne.symm (notField he rfl hb hnf))]
    exact Heap.get?_push_of_some _ hs
  · refine ⟨vs.setIfInBounds 1 (.ref h₁.objs.size), h₁.objs.size, tb, _, ?_, by simp [hsz], b1.fresh, hTe, ?_, by rw [← hx], ?_, by simp [h2]⟩
    · exact Heap.get?_update_self _ e2 rfl
    · rw [Heap.get?_update_other _ _ (Ne.symm hTe)]
      exact Heap.get?_push_size _ (by rw [← hx]; rfl)
    · rcases hpl with rfl | ⟨_, _, _, _, _, _, _, rfl⟩ <;> simp
  · intro b o hb hnf
    obtain ⟨sl, hs⟩ := hs₁.2.2 b o hb
    refine ⟨sl, ?_⟩
    rw [Heap.get?_update_other _ _ (Ne.symm (notField he rfl hb hnf))]
    exact Heap.get?_push_of_some _ hs

/-- the first note of a frame on an exception that bears none -/
theorem note_first {vs : Array Value} {Q : Unit → Shared → Prop} (hfr : A.frames = some (env :: outer)) (hl : s.heap.FunFrames base (env :: outer)) (hf : env.frame = some L)
    (he : s.heap.get? e = some ⟨.ref 52, some d, .fields vs, #[]⟩) (h1 : vs[1]? = some .none) (h2 : vs[2]? = some .none) (hkb : base.StaysIn s.heap) (hen : base.get? e = none)
    (h : ∀ h', Hld base (env :: outer) e d L h' → s.heap.UpToSlots h' → Q () { s with heap := h' }) : wpAny M A (noteFrame (.ref e) env) Q E s := by
  unfold noteFrame
  simp only [hf]
  refine wpAny_bind (wpAny_field he rfl h1 ?_)
  rw [if_neg (by decide)]
  exact entry_ps hfr hl hf he hkb hen (Array.getElem?_eq_some_iff.mp h1).1 h2 fun h' a b c k => h h' ⟨a, hen, b, c⟩ k

/-- a further frame's note -/
theorem note_on {Q : Unit → Shared → Prop} (hfr : A.frames = some (env :: outer)) (hf : env.frame = some L) (x : Fly base (env :: outer) e d s.heap)
    (h : ∀ h', Hld base (env :: outer) e d L h' → s.heap.UpToSlots h' → Q () { s with heap := h' }) : wpAny M A (noteFrame (.ref e) env) Q E s := by
  obtain ⟨hkb, hen, hl, vs, T, oT, ts, he, h1, hnT, hTe, hT, hdT, h3, h2⟩ := x
  unfold noteFrame
  simp only [hf]
  refine wpAny_bind (wpAny_field he rfl h1 ?_)
  rw [if_pos (show (Value.ref T != Value.none) = true from by simp)]
  refine wpAny_bind (wpAny_field hT hdT h3 ?_)
  rw [if_neg (show ¬ ((Value.none == rawInt L) = true) from by simp [rawInt])]
  refine wpAny_bind (wpAny_setField hT hdT (Array.getElem?_eq_some_iff.mp h3).1 ?_)
  have other : ∀ b, b ≠ T → (s.heap.update T (Obj.mapFields (·.setIfInBounds 3 Value.none))).get? b = s.heap.get? b := fun b hb => Heap.get?_update_other _ _ (Ne.symm hb)
  refine entry_ps hfr (hl.of_keeps fun b o hb hnf => ⟨o, (other b (notField hT hdT hb hnf)).trans hb, rfl⟩) hf ((other e (Ne.symm hTe)).trans he)
    (fun b o hbo => (other b fun q => by rw [q, hnT] at hbo; cases hbo).trans (hkb b o hbo)) hen (Array.getElem?_eq_some_iff.mp h1).1 h2 fun h' a b c k => h h' ⟨a, hen, b, c⟩ ?_
  exact fun b o hb hnf => k b o ((other b (notField hT hdT hb hnf)).trans hb) hnf

theorem flight_off {fl : Value} {l : List Env} {Q : Unit → Shared → Prop} (hkb : base.StaysIn s.heap) (hen : base.get? e = none) (hl : s.heap.FunFrames base l) (ht : Tr s.heap base e d fl)
    (h : ∀ h', Fly base l e d h' → s.heap.UpToSlots h' → Q () { s with heap := h' }) : wpAny M A (setFlight (.ref e) none) Q E s := by
  obtain ⟨vs, T, oT, ts, he, h1, hnT, hTe, hT, hdT, h3, h2⟩ := ht
  have hsz3 : 3 < ts.size := (Array.getElem?_eq_some_iff.mp h3).1
  have other : ∀ b, b ≠ T → (s.heap.update T (Obj.mapFields (·.setIfInBounds 3 ((none : Option Addr).elim Value.none fun f => rawInt f)))).get? b = s.heap.get? b := fun b hb => Heap.get?_update_other _ _ (Ne.symm hb)
  unfold setFlight
  refine wpAny_bind (wpAny_field he rfl h1 ?_)
  rw [if_pos (show (Value.ref T != Value.none) = true from by simp)]
  refine wpAny_setField hT hdT hsz3 (h _ ⟨fun b o hbo => (other b fun q => by rw [q, hnT] at hbo; cases hbo).trans (hkb b o hbo), hen,
    hl.of_keeps fun b o hb hnf => ⟨o, (other b (notField hT hdT hb hnf)).trans hb, rfl⟩, ?_⟩ fun b o hb hnf => ⟨o.slots, (other b (notField hT hdT hb hnf)).trans hb⟩)
  exact ⟨vs, T, _, _, (other e (Ne.symm hTe)).trans he, h1, hnT, hTe, Heap.get?_update_self _ hT (Obj.isFreed_of_fields (Obj.data_mapFields hdT _)), Obj.data_mapFields hdT _, by simp [hsz3], h2⟩

theorem lands_ps {l : List Env} {Q : Unit → Shared → Prop} (x : Hld base l e d L s.heap) (h : ∀ h', Fly base l e d h' → s.heap.UpToSlots h' → Q () { s with heap := h' }) : wpAny M A (setFlight (.ref e) none) Q E s :=
  flight_off x.1 x.2.1 x.2.2.1 x.2.2.2 h
theorem again_ps {l : List Env} {Q : Unit → Shared → Prop} (x : Fly base l e d s.heap) (h : ∀ h', Fly base l e d h' → s.heap.UpToSlots h' → Q () { s with heap := h' }) : wpAny M A (setFlight (.ref e) none) Q E s :=
  flight_off x.1 x.2.1 x.2.2.1 x.2.2.2 h

theorem leaves_first {vs : Array Value} {Q : Unit → Shared → Prop} (hfr : A.frames = some (env :: outer)) (hl : s.heap.FunFrames base (env :: outer)) (hf : env.frame = some L)
    (he : s.heap.get? e = some ⟨.ref 52, some d, .fields vs, #[]⟩) (h1 : vs[1]? = some .none) (h2 : vs[2]? = some .none) (hkb : base.StaysIn s.heap) (hen : base.get? e = none)
    (h : ∀ h', Fly base outer e d h' → s.heap.UpToSlots h' → Q () { s with heap := h' }) : wpAny M A (leaving env (.ref e)) Q E s := by
  unfold leaving
  refine wpAny_bind (note_first hfr hl hf he h1 h2 hkb hen fun h' x k => ?_)
  exact lands_ps x fun h'' ⟨a, b, ⟨_, _, c⟩, r⟩ k' => h h'' ⟨a, b, c, r⟩ (k.trans k')
theorem leaves_on {Q : Unit → Shared → Prop} (hfr : A.frames = some (env :: outer)) (hf : env.frame = some L) (x : Fly base (env :: outer) e d s.heap)
    (h : ∀ h', Fly base outer e d h' → s.heap.UpToSlots h' → Q () { s with heap := h' }) : wpAny M A (leaving env (.ref e)) Q E s := by
  unfold leaving
  refine wpAny_bind (note_on hfr hf x fun h' x k => ?_)
  exact lands_ps x fun h'' ⟨a, b, ⟨_, _, c⟩, r⟩ k' => h h'' ⟨a, b, c, r⟩ (k.trans k')
end
end
section
open PySem PySem.W PyProof.Rows PySem.Spec PySem.Calls Builtin Builtin.ObjectAttr
/-- e (a PsError with the dict d that tells v) flies through the frames l; the ledger news stands -/
def Rs (w : World) (base G : Heap) (l : List Env) (e d : Addr) (tk : Tok) (v : Value) (news : Led) (h : Heap) : Prop :=
  ∃ B : Heap, base.StaysIn B ∧ (∀ b o, G.get? b = some o → b ∉ l.filterMap (·.frame) → B.get? b = some o) ∧ (∀ q ∈ (d, toldD w tk v) :: news, B.get? q.1 = some q.2 ∧ G.get? q.1 = none ∧ base.get? q.1 = none) ∧ Fly B l e d h

section
variable {M : Model} {w : World} {A : Around} {E : Value → Shared → Prop} {s' : Shared} {base g g₂ : Heap} {outer : List Env} {L a e d : Addr} {m : Str → Option Value} {name : Str} {scope : Scope} {cd : Value} {Q : Unit → Shared → Prop} {news : Led} {tk : Tok} {v : Value}

theorem leave_first {t0 : Addr} (K : Below A base outer g) (F : Fr g L s'.heap m) (N : News g L s'.heap ((e, exObjD t0 d) :: (d, toldD w tk v) :: news)) (l1 : ∀ p ∈ news, p.1 < e) (l2 : e < d)
    (hQ : ∀ h', Rs w base g outer e d tk v news h' → g.UpToSlots h' → Q () { s' with heap := h' }) (hk : scope.kind = .function := by rfl) :
    wpAny M (A.deeper (envOf name scope L a cd)) (leaving (envOf name scope L a cd) (.ref e)) Q E s' := by
  have K' := K.push (name := name) (a := a) (cd := cd) F hk
  generalize hfs : (envOf name scope L a cd :: outer).filterMap (·.frame) = fs
  have hin : ∀ env ∈ (envOf name scope L a cd :: outer), ∀ b, env.frame = some b → b ∈ e :: fs := fun env he b hb => .tail _ (hfs ▸ List.mem_filterMap.mpr ⟨env, he, hb⟩)
  have ne : base.get? e = none := fresh_of_stays K.stays (N _ (.head _)).2.2
  have fr : ∀ {b o}, b ∈ fs → base.get? b = some o → False := fun {b o} hm hb => by
    rw [← hfs] at hm
    rw [(K'.frames.mem hm).1] at hb
    cases hb
  have st : base.StaysIn (hideAll s'.heap (e :: fs)) := fun b o q => hideAll_get _ (K'.stays b o q) fun hm => by
    rcases List.mem_cons.mp hm with rfl | hm
    · rw [ne] at q; cases q
    · exact fr hm q
  have inG : ∀ q ∈ ((d, toldD w tk v) :: news), q.1 ∉ e :: fs := fun q hq hm => by
    rcases List.mem_cons.mp hm with hm | hm
    · rcases List.mem_cons.mp hq with rfl | hq
      · exact absurd hm (Nat.ne_of_gt l2)
      · exact absurd hm (Nat.ne_of_lt (l1 q hq))
    · rw [← hfs] at hm
      obtain ⟨env, he, hf⟩ := List.mem_filterMap.mp hm
      rcases List.mem_cons.mp he with rfl | he
      · exact (N q (.tail _ hq)).2.1 (Option.some.inj hf).symm
      · obtain ⟨o, ho, _⟩ := (K.frames.mem (List.mem_filterMap.mpr ⟨env, he, hf⟩)).2
        rw [(N q (.tail _ hq)).2.2] at ho; cases ho
  refine leaves_first (base := hideAll s'.heap (e :: fs)) K'.stack (funFrames_hide K'.frames hin) rfl (N _ (.head _)).1 rfl rfl (fun b o q => of_hideAll _ q) (hideAll_none _ (.head _)) fun h' x k => ?_
  refine hQ h' ⟨_, st, fun b o q nm => hideAll_get _ (F.keep b o q) fun hm => ?_, fun q hq => ⟨hideAll_get _ (N q (.tail _ hq)).1 (inG q hq), (N q (.tail _ hq)).2.2, fresh_of_stays K.stays (N q (.tail _ hq)).2.2⟩, x⟩ ((Heap.UpToSlots.of_keeps F.keep).trans k)
  rcases List.mem_cons.mp hm with rfl | hm
  · rw [(N _ (.head _)).2.2] at q; cases q
  · rw [← hfs] at hm
    rcases kts_mem hm with z | z
    · rw [z, kts_self F] at q; cases q
    · exact nm z

theorem leave_on (K : Below A base outer g) (F : Fr g L g₂ m) (R : Rs w base g₂ (envOf name scope L a cd :: outer) e d tk v news s'.heap) (hsm : g₂.UpToSlots s'.heap)
    (hQ : ∀ h', Rs w base g outer e d tk v news h' → g.UpToSlots h' → Q () { s' with heap := h' }) :
    wpAny M (A.deeper (envOf name scope L a cd)) (leaving (envOf name scope L a cd) (.ref e)) Q E s' := by
  obtain ⟨B, hB, hBG, hl, hfl⟩ := R
  exact leaves_on (Around.frames_deeper K.stack) rfl hfl fun h' x k => hQ h' ⟨B, hB, fun b o q nm => hBG b o (F.keep b o q) (fun hm => by
    rcases kts_mem hm with z | z
    · rw [z, kts_self F] at q; cases q
    · exact nm z), fun q hq => ⟨(hl q hq).1, kts_none F.keep (hl q hq).2.1, (hl q hq).2.2⟩, x⟩ ((Heap.UpToSlots.of_keeps F.keep).trans (hsm.trans k))
end

section
variable {prog : Program} {w : World} {A₀ : Around} {E : Value → Shared → Prop} {s' : Shared} {base g g₀ G : Heap} {outer : List Env} {L a e d : Addr} {m : Str → Option Value} {name : Str} {scope : Scope} {cd : Value}
  {n : Str} {b₀ : Stmt} {suite : List Stmt} {pos np : Pos} {rest : List ExceptHandler} {Q : Flow → Shared → Prop} {news : Led} {tk : Tok} {v : Value}
  {p : Program} {loose : List Str} {mean : ExcName → Option Value} {mg mb : Str → Option Value} {x : Str}

theorem caught (R : Rs w base G (envOf name scope L a cd :: outer) e d tk v news s'.heap) (F : Fr g L G m) (K : Below A₀ base outer g) (hsm : G.UpToSlots s'.heap) (XB : (Kp w.params).In base) (TB : Top p loose mean mg mb base)
    (D : KtsDicts (outer.filterMap (·.frame)) g) (T0 : KtsTurn (outer.filterMap (·.frame)) g₀ g) (ex : nsIn (Kp w.params) mainGlobals x = some (some (.ref 52)))
    (k : ∀ h' g' tk' vs, vs[2]? = some .none → KtsTurn (outer.filterMap (·.frame)) g₀ g' → Fr g' L h' (fun y => if y = n then some (.ref e) else m y) → News g' L h' ((e, ⟨.ref 52, some d, .fields vs, #[]⟩) :: (d, toldD w tk v) :: news) → Below A₀ base outer g' → (Kp w.params).In g' → Top p loose mean mg mb g' → KtsDicts (outer.filterMap (·.frame)) g' →
      wpAny (model prog w) ((A₀.deeper (envOf name scope L a cd)).mark (some (.ref e))) (execs (b₀ :: suite) (envOf name scope L a cd))
        (fun f s₄ => wpAny (model prog w) (A₀.deeper (envOf name scope L a cd)) (do bindName (envOf name scope L a cd) n .none; unbindBehindTheSuite (envOf name scope L a cd) n pos) (fun _ s₅ => Q f s₅) E s₄)
        (AsSuiteRaised (model prog w) ((A₀.deeper (envOf name scope L a cd)).mark (some (.ref e))) (envOf name scope L a cd) n pos (notedBy (model prog w) ((A₀.deeper (envOf name scope L a cd)).mark (some (.ref e))) (envOf name scope L a cd) (cameBackBy (model prog w) (A₀.deeper (envOf name scope L a cd)) (envOf name scope L a cd) E)))
        { s' with heap := h', toks := tk' })
    (hk : scope.kind = .function := by rfl) (hlo : (envOf name scope L a cd).kindOf n = some .local := by rfl) (hx : (envOf name scope L a cd).kindOf x = some .globalImplicit := by rfl) (hd : (x == ("__debug__" : Str)) = false := by decide) :
    wpAny (model prog w) (A₀.deeper (envOf name scope L a cd)) (noteFrame (.ref e) (envOf name scope L a cd))
      (fun _ s₂ => wpAny (model prog w) (A₀.deeper (envOf name scope L a cd)) (setFlight (.ref e) none) (fun _ s₃ =>
        wpAny (model prog w) (A₀.deeper (envOf name scope L a cd)) (handleBy (.ref e) (envOf name scope L a cd) (.ExceptHandler (some (.Name x np)) (some n) (b₀ :: suite) pos :: rest)) Q E s₃) E s₂) E s' := by
  obtain ⟨B, hB, hBG, hl, hfl⟩ := R
  have hL : B.get? L = none := by
    obtain ⟨_, ⟨L', _, hf, hn', _⟩, _⟩ := hfl.2.2.1
    obtain rfl : L = L' := Option.some.inj hf
    exact hn'
  refine note_on (Around.frames_deeper K.stack) rfl hfl fun h₄ hheld₄ hsm₄ => ?_
  refine lands_ps hheld₄ fun h₅ hheld hsm₅' => ?_
  have hsm₅ := hsm₄.trans hsm₅'
  obtain ⟨g₅, T₅, F₅, K₅⟩ := kts_ground K F hBG hheld.1 (hsm.trans hsm₅)
  have X₅ : (Kp w.params).In g₅ := XB.keeps K₅.stays
  have P₅ : TopRead p loose mg mb g₅ := topRead_of (TB.keeps K₅.stays)
  obtain ⟨vs₅, _, _, _, hob, _⟩ := hheld.2.2.2
  have hC₅ : h₅.get? 52 = some psObj := F₅.keep _ _ (ps_obj_at X₅)
  refine wpAny_handleBy_cons (codeAny_handlers_test (name_K F₅ X₅ P₅ ex ?_ hk hx hd)) (by intro q; cases q)
  refine wpAny_excMatches_sub_self hC₅ hob rfl (by decide +kernel) (codeAny_handlers_suite_as ?_)
  refine again_ps hheld fun h₆ hfl₆ hsm₆ => ?_
  have hup := (hsm.trans hsm₅).trans hsm₆
  obtain ⟨g₆, T₆, F₆, K₆⟩ := kts_ground K F hBG hfl₆.1 hup
  obtain ⟨vs, _, _, _, hoe, _, _, _, _, _, _, hv2⟩ := hfl₆.2.2.2
  have ne₆ : g₆.get? e = none := T₆.none_ _ (kts_fresh F hBG hfl₆.2.1 fun o ho hm => by
    obtain ⟨_, o', ho', hd⟩ := K.frames.mem hm
    rw [ho] at ho'
    cases ho'
    obtain ⟨sl, hs⟩ := hup _ _ (F.keep _ _ ho) hd
    rw [hoe] at hs
    exact hd vs (congrArg Obj.data (Option.some.inj hs)).symm)
  have Nl : News g₆ L h₆ ((d, toldD w tk v) :: news) := fun q hq => ⟨hfl₆.1 _ _ (hl q hq).1, (fun z => by have := (hl q hq).1; rw [z, hL] at this; cases this), T₆.none_ _ (kts_none F.keep (hl q hq).2.1)⟩
  have N₆ := News.more F₆ Nl hoe (fun es n q => by cases q) ne₆
  have X₆ : (Kp w.params).In g₆ := XB.keeps K₆.stays
  have P₆ : Top p loose mean mg mb g₆ := TB.keeps K₆.stays
  refine stN F₆ N₆ (fun h₇ F₇ N₇ => ?_) hk hlo
  exact k h₇ g₆ _ vs hv2 (T0.trans T₆) F₇ N₇ K₆ X₆ P₆ (D.turn T₆)
end

/-- what a raise statement asks of the value it evaluates -/
def RaisePs (E : Value → Shared → Prop) (v : Value) (s₁ : Shared) : Prop :=
  ∃ e t0 d, v = .ref e ∧ s₁.heap.get? e = some (exObjD t0 d) ∧ s₁.heap.get? 52 = some psObj ∧ E (.ref e) s₁
theorem ps_isBase : ((Value.ref 52) :: [.ref 39, .type "Exception", .type "BaseException", .type "object"]).contains (.type "BaseException") = true := by decide +kernel
theorem Raise_ps {M : Model} {A : Around} {E : Value → Shared → Prop} {s : Shared} {env : Env} {x : Expr} {pos : Pos} {Q : Flow → Shared → Prop} (hh : A.handled = none)
    (h : wpAny M A (eval x env) (RaisePs E) E s) : wpAny M A (exec (.Raise (some x) none pos) env) Q E s := by
  show wpAny M A (do standAt pos; raiseStmt env (some (do let v ← eval x env; standAt pos; pure v)) none) Q E s
  refine wpAny_bind (wpAny_standAt ?_)
  unfold raiseStmt
  dsimp only
  refine wpAny_bind (wpAny_bind (wpAny_mono h (fun v s₁ h₁ => wpAny_bind (wpAny_standAt (wpAny_pure ?_))) fun _ _ y => y))
  obtain ⟨e, t0, d, rfl, he, hC, hE⟩ := h₁
  obtain ⟨hh₁, g, dr, t, os⟩ := s₁
  have hnt : ∀ {Q' : Bool → Shared → Prop}, Q' false ⟨hh₁, g, dr, t, os⟩ → wpAny M A (isType (.ref e)) Q' E ⟨hh₁, g, dr, t, os⟩ := by
    intro Q' hq
    simp only [isType, loadHead]
    refine wpAny_bind (wpAny_loadPart he (wpAny_pure hq))
  refine wpAny_bind (wpAny_pure ?_)
  dsimp only
  refine wpAny_bind (wpAny_holding ?_)
  unfold excFromValue isExcClass
  refine wpAny_bind (wpAny_bind (hnt ?_))
  simp only [Bool.false_eq_true, if_false]
  refine wpAny_pure ?_
  simp only [Bool.false_eq_true, if_false]
  unfold isInstance
  refine wpAny_bind (wpAny_bind (wpAny_bind (wpAny_loadPart he (wpAny_pure ?_))))
  refine wpAny_isSubtype_exc hC ?_
  rw [ps_isBase]
  simp only [if_true]
  refine wpAny_pure ?_
  refine wpAny_bind (hnt ?_)
  simp only [Bool.false_eq_true, if_false]
  unfold raisedInstance
  refine wpAny_bind (wpAny_bind (wpAny_bind (wpAny_loadPart he (wpAny_pure (wpAny_bind (wpAny_bind (wpAny_loadPart hC (wpAny_pure ?_))))))))
  rw [if_pos (by decide)]
  refine wpAny_pure ?_
  unfold setFlight raiseNew
  refine wpAny_bind (wpAny_bind (wpAny_field (x := Value.none) he rfl rfl ?_))
  rw [if_neg (show ¬ ((Value.none != Value.none) = true) by decide)]
  refine wpAny_pure (wpAny_bind (wpAny_handled ?_))
  rw [hh]
  first
    | exact wpAny_throw hE
    | exact wpAny_bind (wpAny_pure (wpAny_throw hE))
theorem raisePs_at {w : World} {h₀ : Heap} {L : Addr} {m : Str → Option Value} {news : Led} {e t0 d : Addr} {E : Value → Shared → Prop} {s₁ : Shared} (X₀ : (Kp w.params).In h₀) (F : Fr h₀ L s₁.heap m) (N : News h₀ L s₁.heap ((e, exObjD t0 d) :: news))
    (hE : E (.ref e) s₁) : RaisePs E (.ref e) s₁ := ⟨e, t0, d, rfl, (N _ (.head _)).1, ps_obj_at (X₀.keeps F.keep), hE⟩
end
/-- an operand: what a pair or a Thing holds -/
inductive Op where
  | int (i : Int)
  | real (r : Int)
  | bool (b : Bool)
def Op.kd : Op → Str
  | .int _ => Str.ofString "integer"
  | .real _ => Str.ofString "real"
  | .bool _ => Str.ofString "boolean"
def Op.val : Op → Tok → Value
  | .int i, t => .int i t
  | .real r, t => .int r t
  | .bool b, _ => .bool b
def Op.num : Op → Bool
  | .bool _ => false
  | _ => true
/-- its value in millionths -/
def Op.mil : Op → Int
  | .int i => i * 1000000
  | .real r => r
  | .bool _ => 0
inductive Res where
  | ok (o : Op)
  | bad (b : Array UInt8)
abbrev limitcheck : Array UInt8 := #[108, 105, 109, 105, 116, 99, 104, 101, 99, 107]
abbrev undefinedresult : Array UInt8 := #[117, 110, 100, 101, 102, 105, 110, 101, 100, 114, 101, 115, 117, 108, 116]
abbrev typecheck : Array UInt8 := #[116, 121, 112, 101, 99, 104, 101, 99, 107]
abbrev stackunderflow : Array UInt8 := #[115, 116, 97, 99, 107, 117, 110, 100, 101, 114, 102, 108, 111, 119]
abbrev fitsI (n : Int) : Prop := -2147483648 ≤ n ∧ n ≤ 2147483647
abbrev inR (m : Int) : Prop := -1000000000000000000000 ≤ m ∧ m ≤ 1000000000000000000000
def realF (m : Int) : Res := if inR m then .ok (.real m) else .bad limitcheck
def wholeF (n : Int) : Res := if fitsI n then .ok (.int n) else realF (n * 1000000)
abbrev tupO (o : Op) (t1 t2 : Tok) : Obj := { cls := .type "tuple", data := .seq #[.str o.kd t1, o.val t2] }

/-- the raise arm of a def's claim -/
abbrev Exc (w : World) (base h₀ : Heap) (L : Addr) (m : Str → Option Value) (l : List Env) (s : Shared) (E : Value → Shared → Prop) (b : Array UInt8) (news : Led) : Prop :=
  ∀ g e d tk t h' tk', Fr h₀ L g m → Rs w base g l e d tk (.bytes b t) news h' → g.UpToSlots h' → E (.ref e) { s with heap := h', toks := tk' }
def absI (x : Int) : Int := if x < 0 then -x else x
def dividedF (n b : Int) : Int := if (n < 0 ↔ b < 0) then (2 * absI n + absI b).fdiv (2 * absI b) else -((2 * absI n + absI b).fdiv (2 * absI b))
def addF : Op → Op → Res
  | .int i, .int j => wholeF (i + j)
  | o1, o2 => realF (o1.mil + o2.mil)
def subF : Op → Op → Res
  | .int i, .int j => wholeF (i - j)
  | o1, o2 => realF (o1.mil - o2.mil)
def mulF : Op → Op → Res
  | .int i, .int j => wholeF (i * j)
  | o1, o2 => realF (dividedF (o1.mil * o2.mil) 1000000)
def quotF (o1 o2 : Op) : Res := if o2.mil = 0 then .bad undefinedresult else realF (dividedF (o1.mil * 1000000) o2.mil)
def idivF (x y : Int) : Res := if y = 0 then .bad undefinedresult else
  let f := if (x < 0 ↔ y < 0) then (absI x).fdiv (absI y) else -((absI x).fdiv (absI y))
  if fitsI f then .ok (.int f) else .bad undefinedresult
def modF (x y : Int) : Res := if y = 0 then .bad undefinedresult else .ok (.int (if x < 0 then -((absI x).fmod (absI y)) else (absI x).fmod (absI y)))
def negF : Op → Res
  | .int i => wholeF (-i)
  | o => .ok (.real (-o.mil))
def absF (o : Op) : Res := if o.mil < 0 then negF o else .ok o
def floorF : Op → Res
  | .real r => realF (r.fdiv 1000000 * 1000000)
  | o => .ok o
def ceilF : Op → Res
  | .real r => realF (-((-r).fdiv 1000000) * 1000000)
  | o => .ok o
def roundF : Op → Res
  | .real r => realF ((2 * r + 1000000).fdiv 2000000 * 1000000)
  | o => .ok o
def truncF : Op → Res
  | .real r => .ok (.real (if r < 0 then -((absI r).fdiv 1000000 * 1000000) else (absI r).fdiv 1000000 * 1000000))
  | o => .ok o
/-- a size that every int of the walk keeps: below 10 ^ 60 -/
abbrev Big (x : Int) : Prop := -1000000000000000000000000000000000000000000000000000000000000 < x ∧ x < 1000000000000000000000000000000000000000000000000000000000000
abbrev Sm (x : Int) : Prop := -1000000000000000000000000000000000000000000000000000000000 < x ∧ x < 1000000000000000000000000000000000000000000000000000000000
theorem big_log {k : Int} (h : Big k) : k.natAbs.log2 < 200 := by
  by_cases h0 : k.natAbs = 0
  · rw [h0]; decide +kernel
  · have h1 : k.natAbs < 1000000000000000000000000000000000000000000000000000000000000 := by omega
    refine (Nat.log2_lt h0).mpr (Nat.lt_of_lt_of_le h1 (by decide +kernel))
theorem big_bits {k : Int} (h : Big k) : Builtin.Int.intBits k ≤ 2 ^ 20 := by
  unfold Builtin.Int.intBits
  split
  · exact Nat.zero_le _
  · have := big_log h
    exact Nat.le_trans (Nat.succ_le_of_lt this) (by decide +kernel)
theorem mulOk {x y : Int} (h1 : Big x) (h2 : Big y) : IntMulOk x y := IntMulOk.of_bits (big_bits h1) (big_bits h2)
theorem divOk {x y : Int} (h : Big y) : Builtin.divisionGoesByPylong x y = false := PyProof.noPylong_of_log2 (Nat.lt_trans (big_log h) (by decide +kernel))
theorem tl1 {h₀ h : Heap} {L : Addr} {x : Addr × Obj} {news : Led} (N : News h₀ L h (x :: news)) : News h₀ L h news := fun q hq => N q (.tail _ hq)
theorem dv1 {x y f : Int} (h : (decide (x < 0) == decide (y < 0)) = true) (hf : f = (2 * absI x + absI y).fdiv (2 * absI y)) : f = dividedF x y := by
  simp only [beq_iff_eq, decide_eq_decide] at h
  unfold dividedF
  rw [if_pos h, hf]
theorem dv2 {x y f : Int} (h : (decide (x < 0) == decide (y < 0)) = false) (hf : f = -((2 * absI x + absI y).fdiv (2 * absI y))) : f = dividedF x y := by
  simp only [beq_eq_false_iff_ne, ne_eq, decide_eq_decide] at h
  unfold dividedF
  rw [if_neg h, hf]
theorem wI {x : Int} {b : Bool} (h : b = true ↔ fitsI x) (h2 : b = true) : wholeF x = .ok (.int x) := by unfold wholeF; rw [if_pos (h.mp h2)]
theorem notFits {x : Int} {b : Bool} (h : b = true ↔ fitsI x) (h2 : b = false) : ¬ fitsI x := fun q => by rw [h.mpr q] at h2; cases h2
theorem rOk {x : Int} (h : inR x) : realF x = .ok (.real x) := by unfold realF; rw [if_pos h]
theorem rBad {x : Int} (h : ¬ inR x) : realF x = .bad limitcheck := by unfold realF; rw [if_neg h]
abbrev Tn (x : Int) : Prop := -1000000000000000000000 ≤ x ∧ x ≤ 1000000000000000000000
theorem mR {v a b : Int} (hv : v = dividedF a b) (h : inR v) : realF (dividedF a b) = .ok (.real v) := by subst hv; exact rOk h
theorem mB {v a b : Int} (hv : v = dividedF a b) (h : ¬ inR v) : realF (dividedF a b) = .bad limitcheck := by subst hv; exact rBad h
theorem qZ {o1 o2 : Op} (h : o2.mil = 0) : quotF o1 o2 = .bad undefinedresult := by unfold quotF; rw [if_pos h]
theorem qR {v : Int} {o1 o2 : Op} (h0 : ¬ o2.mil = 0) (hv : v = dividedF (o1.mil * 1000000) o2.mil) (h : inR v) : quotF o1 o2 = .ok (.real v) := by unfold quotF; rw [if_neg h0]; exact mR hv h
theorem qB {v : Int} {o1 o2 : Op} (h0 : ¬ o2.mil = 0) (hv : v = dividedF (o1.mil * 1000000) o2.mil) (h : ¬ inR v) : quotF o1 o2 = .bad limitcheck := by unfold quotF; rw [if_neg h0]; exact mB hv h
theorem tP {r : Int} (h : r < 0) : truncF (.real r) = .ok (.real (-((absI r).fdiv 1000000 * 1000000))) := by simp only [truncF, if_pos h]
theorem tN {r : Int} (h : ¬ r < 0) : truncF (.real r) = .ok (.real ((absI r).fdiv 1000000 * 1000000)) := by simp only [truncF, if_neg h]
theorem absR {r : Int} (h : r < 0) : absF (.real r) = .ok (.real (-r)) := by unfold absF; rw [if_pos (show Op.mil (.real r) < 0 from h)]; rfl
theorem mulSm {x y : Int} (h1 : Tn x) (h2 : Tn y) : Sm (x * y) := by
  have e1 : x.natAbs ≤ 1000000000000000000000 := by omega
  have e2 : y.natAbs ≤ 1000000000000000000000 := by omega
  have e3 : (x * y).natAbs ≤ 1000000000000000000000 * 1000000000000000000000 := by
    rw [Int.natAbs_mul]
    exact Nat.mul_le_mul e1 e2
  constructor <;> omega
theorem selfN {h₀ h : Heap} {L : Addr} {x : Addr × Obj} {news : Led} (hm : x ∈ news) (N : News h₀ L h news) : News h₀ L h (x :: news) := fun q hq => by
  rcases List.mem_cons.mp hq with rfl | hq
  · exact N _ hm
  · exact N _ hq
theorem iOk {x y f : Int} (h0 : ¬ y = 0) (hf : f = if (x < 0 ↔ y < 0) then (absI x).fdiv (absI y) else -((absI x).fdiv (absI y))) (h : fitsI f) : idivF x y = .ok (.int f) := by
  unfold idivF; rw [if_neg h0]; dsimp only; rw [← hf, if_pos h]
theorem iBad {x y f : Int} (h0 : ¬ y = 0) (hf : f = if (x < 0 ↔ y < 0) then (absI x).fdiv (absI y) else -((absI x).fdiv (absI y))) (h : ¬ fitsI f) : idivF x y = .bad undefinedresult := by
  unfold idivF; rw [if_neg h0]; dsimp only; rw [← hf, if_neg h]
theorem iZ {x y : Int} (h0 : y = 0) : idivF x y = .bad undefinedresult := by unfold idivF; rw [if_pos h0]
theorem mZ {x y : Int} (h0 : y = 0) : modF x y = .bad undefinedresult := by unfold modF; rw [if_pos h0]
theorem mN {x y : Int} (h0 : ¬ y = 0) (h : x < 0) : modF x y = .ok (.int (-((absI x).fmod (absI y)))) := by unfold modF; rw [if_neg h0, if_pos h]
theorem mP {x y : Int} (h0 : ¬ y = 0) (h : ¬ x < 0) : modF x y = .ok (.int ((absI x).fmod (absI y))) := by unfold modF; rw [if_neg h0, if_neg h]
theorem iS {x y : Int} (h : (decide (x < 0) == decide (y < 0)) = true) : (absI x).fdiv (absI y) = if (x < 0 ↔ y < 0) then (absI x).fdiv (absI y) else -((absI x).fdiv (absI y)) := by
  simp only [beq_iff_eq, decide_eq_decide] at h
  rw [if_pos h]
theorem iD {x y : Int} (h : (decide (x < 0) == decide (y < 0)) = false) : -((absI x).fdiv (absI y)) = if (x < 0 ↔ y < 0) then (absI x).fdiv (absI y) else -((absI x).fdiv (absI y)) := by
  simp only [beq_eq_false_iff_ne, ne_eq, decide_eq_decide] at h
  rw [if_neg h]
theorem fitsOf {x : Int} {b : Bool} (h : b = true ↔ fitsI x) (h2 : b = true) : fitsI x := h.mp h2
theorem wR {x : Int} {b : Bool} (h : b = true ↔ fitsI x) (h2 : b = false) (h3 : inR (x * 1000000)) : wholeF x = .ok (.real (x * 1000000)) := by unfold wholeF; rw [if_neg (notFits h h2), rOk h3]
theorem wB {x : Int} {b : Bool} (h : b = true ↔ fitsI x) (h2 : b = false) (h3 : ¬ inR (x * 1000000)) : wholeF x = .bad limitcheck := by unfold wholeF; rw [if_neg (notFits h h2), rBad h3]
theorem Tn.big {x : Int} (h : Tn x) : Big x := by constructor <;> omega
theorem Tn.sm {x : Int} (h : Tn x) : Sm x := by constructor <;> omega
theorem Sm.big {x : Int} (h : Sm x) : Big x := by constructor <;> omega


abbrev ent (w : World) (nm : String) (k : Tok) (v : Value) : DictEntry := ⟨PyData.keyHash w.params (Str.ofString nm), .str (Str.ofString nm) k, v⟩
abbrev thD (w : World) (k1 k2 k3 k4 t1 t2 : Tok) (kd : Str) (v : Value) : Obj := dictOf [ent w "kind" k1 (.str kd t1), ent w "value" k2 v, ent w "is_exec" k3 (.bool false), ent w "access" k4 (.int 3 t2)] 4
abbrev stD (w : World) (k1 k2 t : Tok) (TL : Addr) : Obj := dictOf [ent w "most" k1 (.int 20 t), ent w "things" k2 (.ref TL)] 2
inductive ThingAt (w : World) (l : Led) (x : Addr) (kd : Str) (v : Value) : Prop where
  | mk (dx : Addr) (k1 k2 k3 k4 t1 t2 : Tok) (a : (x, instObj 198 dx) ∈ l) (b : (dx, thD w k1 k2 k3 k4 t1 t2 kd v) ∈ l) : ThingAt w l x kd v
inductive MachAt (w : World) (l : Led) (MA TL : Addr) : Prop where
  | mk (dM : Addr) (MD : List DictEntry) (nM : Nat) (S dS : Addr) (k1 k2 t : Tok) (a : (MA, instObj 791 dM) ∈ l) (b : (dM, dictOf MD nM) ∈ l) (c : getL (Str.ofString "operands") MD = some (some (.ref S))) (d : (S, instObj 396 dS) ∈ l) (e : (dS, stD w k1 k2 t TL) ∈ l) : MachAt w l MA TL
theorem ThingAt.sub {w : World} {l l' : Led} {x : Addr} {kd : Str} {v : Value} (h : ThingAt w l x kd v) (hs : ∀ q ∈ l, q ∈ l') : ThingAt w l' x kd v := by
  obtain ⟨dx, k1, k2, k3, k4, t1, t2, a, b⟩ := h
  exact ⟨dx, k1, k2, k3, k4, t1, t2, hs _ a, hs _ b⟩
theorem MachAt.sub {w : World} {l l' : Led} {MA TL : Addr} (h : MachAt w l MA TL) (hs : ∀ q ∈ l, q ∈ l') : MachAt w l' MA TL := by
  obtain ⟨dM, MD, nM, S, dS, k1, k2, t, a, b, c, d, e⟩ := h
  exact ⟨dM, MD, nM, S, dS, k1, k2, t, hs _ a, hs _ b, c, hs _ d, hs _ e⟩

theorem handed_val (o : Op) (t : Tok) : handedIn (o.val t) = true := by cases o <;> rfl

theorem Rs.sub {w : World} {base G h : Heap} {l : List Env} {e d : Addr} {tk : Tok} {v : Value} {n1 n2 : Led} (R : Rs w base G l e d tk v n2 h) (hs : ∀ q ∈ n1, q ∈ n2) : Rs w base G l e d tk v n1 h := by
  obtain ⟨B, a, b, c, f⟩ := R
  exact ⟨B, a, b, fun q hq => c q (by
    rcases List.mem_cons.mp hq with rfl | hq
    · exact .head _
    · exact .tail _ (hs _ hq)), f⟩
theorem News.sub {h₀ h : Heap} {L : Addr} {n1 n2 : Led} (N : News h₀ L h n2) (hs : ∀ q ∈ n1, q ∈ n2) : News h₀ L h n1 := fun q hq => N q (hs q hq)
def Op.isI : Op → Bool
  | .int _ => true
  | _ => false


theorem numOf {o : Op} (h : ([Str.ofString "integer", Str.ofString "real"].any (· == o.kd)) = true) : o.num = true := by
  cases o with
  | int _ => rfl
  | real _ => rfl
  | bool _ => exact absurd h (show ¬ _ from by simp only [Op.kd]; decide)
theorem notNum {o : Op} (h : ([Str.ofString "integer", Str.ofString "real"].any (· == o.kd)) = false) : o.num = false := by
  cases o with
  | int _ => exact absurd h (show ¬ _ from by simp only [Op.kd]; decide)
  | real _ => exact absurd h (show ¬ _ from by simp only [Op.kd]; decide)
  | bool _ => rfl
theorem intOf {o : Op} (h : ([Str.ofString "integer"].any (· == o.kd)) = true) : o.isI = true := by
  cases o with
  | int _ => rfl
  | real _ => exact absurd h (show ¬ _ from by simp only [Op.kd]; decide)
  | bool _ => exact absurd h (show ¬ _ from by simp only [Op.kd]; decide)
theorem notInt {o : Op} (h : ([Str.ofString "integer"].any (· == o.kd)) = false) : o.isI = false := by
  cases o with
  | int _ => exact absurd h (show ¬ _ from by simp only [Op.kd]; decide)
  | real _ => rfl
  | bool _ => rfl
theorem nandR {a b : Bool} (h : b = false) : (a && b) = false := by cases a <;> simp_all
theorem nandL {a b : Bool} (h : a = false) : (a && b) = false := by cases a <;> simp_all
theorem mk3 {h₀ h : Heap} {L : Addr} {a b : Addr × Obj} {led news : Led} (N : News h₀ L h led) (ha : a ∈ led) (hb : b ∈ led) (hs : ∀ q ∈ news, q ∈ led) : News h₀ L h (a :: b :: news) := fun q hq => N q (by
  rcases List.mem_cons.mp hq with rfl | hq
  · exact ha
  · rcases List.mem_cons.mp hq with rfl | hq
    · exact hb
    · exact hs q hq)
theorem mk2 {h₀ h : Heap} {L : Addr} {b : Addr × Obj} {led news : Led} (N : News h₀ L h led) (hb : b ∈ led) (hs : ∀ q ∈ news, q ∈ led) : News h₀ L h (b :: news) := fun q hq => N q (by
  rcases List.mem_cons.mp hq with rfl | hq
  · exact hb
  · exact hs q hq)

theorem mk4 {h₀ h : Heap} {L : Addr} {a b c : Addr × Obj} {led news : Led} (N : News h₀ L h (a :: b :: led)) (hc : c ∈ led) (hs : ∀ q ∈ news, q ∈ led) : News h₀ L h (a :: b :: c :: news) := fun q hq => N q (by
  rcases List.mem_cons.mp hq with rfl | hq
  · exact .head _
  · rcases List.mem_cons.mp hq with rfl | hq
    · exact .tail _ (.head _)
    · rcases List.mem_cons.mp hq with rfl | hq
      · exact .tail _ (.tail _ hc)
      · exact .tail _ (.tail _ (hs q hq)))
theorem apart2 {h₀ h : Heap} {L a b : Addr} {x y : Obj} {led : Led} (N : News h₀ L h led) (ha : (a, x) ∈ led) (hb : (b, y) ∈ led) (hd : x.cls ≠ y.cls) : a ≠ b := fun q => by
  subst q
  have h1 := (N _ ha).1
  have h2 := (N _ hb).1
  rw [show (a, x).1 = a from rfl] at h1
  rw [show (a, y).1 = a from rfl] at h2
  rw [h1] at h2
  exact hd (congrArg Obj.cls (Option.some.inj h2))

def Op.ks : Op → Str
  | .bool _ => Str.ofString "boolean"
  | _ => Str.ofString "number"
def Op.kv : Op → Int
  | .bool b => if b then 1 else 0
  | o => o.mil
abbrev keyT (o : Op) (t1 t2 : Tok) : Obj := { cls := .type "tuple", data := .seq #[.str o.ks t1, .int o.kv t2] }
def eqB (o1 o2 : Op) : Bool := o1.ks == o2.ks && o1.kv == o2.kv
def lessB (o1 o2 : Op) : Bool := decide (o1.mil < o2.mil)
theorem ReadsVia.lst {h₀ : Heap} {news : Led} {a : Addr} {vs : List Value} {ds : List PyData} {n : Nat} (hm : (a, listOf vs.toArray n) ∈ news) (r : ReadsViaAll h₀ news vs ds) : ReadsVia h₀ news (.ref a) (.list ds) := fun h hk hn => by
  obtain ⟨as, ra⟩ := r h hk hn
  exact ⟨a :: as, .list (hn _ hm) rfl rfl (by rw [List.toList_toArray]; exact ra)⟩
theorem eq_via {prog : Program} {w : World} {A : Around} {E : Value → Shared → Prop} {s : Shared} {h₀ : Heap} {L : Addr} {m : Str → Option Value} {news : Led} {a b : Value} {d e : PyData} {Q : Value → Shared → Prop}
    (ra : ReadsVia h₀ news a d) (rb : ReadsVia h₀ news b e) (F : Fr h₀ L s.heap m) (N : News h₀ L s.heap news) (hd : d.canLay0 = true) (he : e.canLay0 = true) (hk : d.depth ≤ 8) (hu : A.units + 8 < cLine) (h : Q (.bool (PyData.eqv d e)) s) : wpAny (model prog w) A (compareOp .Eq a b) Q E s := by
  obtain ⟨_, r1⟩ := ra.at F N
  obtain ⟨_, r2⟩ := rb.at F N
  exact PySem.SeqAt.compareEq_reads r1 r2 hd he (Nat.lt_of_le_of_lt (Nat.add_le_add_left (Nat.le_trans (Nat.min_le_left _ _) hk) _) hu) h
theorem ks_ok (o : Op) : PyData.strOk o.ks = true := by cases o <;> (simp only [Op.ks]; decide +kernel)
theorem key_lay (o : Op) : (PyData.tuple [.str o.ks, .int o.kv]).canLay0 = true := by simp [PyData.canLay0, PyData.canLayAll0, ks_ok]
theorem key_eqv (o1 o2 : Op) : PyData.eqv (.tuple [.str o1.ks, .int o1.kv]) (.tuple [.str o2.ks, .int o2.kv]) = eqB o1 o2 := by simp [PyData.eqv, PyData.eqvAll, eqB]
theorem eq_key {prog : Program} {w : World} {A : Around} {E : Value → Shared → Prop} {s : Shared} {h₀ : Heap} {L : Addr} {m : Str → Option Value} {news : Led} {D1 D2 : Addr} {o1 o2 : Op} {t1 t2 t3 t4 : Tok} {Q : Value → Shared → Prop}
    (F : Fr h₀ L s.heap m) (N : News h₀ L s.heap news) (h1 : (D1, keyT o1 t1 t2) ∈ news) (h2 : (D2, keyT o2 t3 t4) ∈ news) (hu : A.units + 8 < cLine) (h : Q (.bool (eqB o1 o2)) s) : wpAny (model prog w) A (compareOp .Eq (.ref D1) (.ref D2)) Q E s :=
  eq_via (.tuple (vs := [_, _]) h1 (.cons (.str _ _) (.cons (.int _ _) .nil))) (.tuple (vs := [_, _]) h2 (.cons (.str _ _) (.cons (.int _ _) .nil))) F N (key_lay o1) (key_lay o2) (by simp [PyData.depth, PyData.depthAll]) hu (by rw [key_eqv]; exact h)
theorem kdNe (o : Op) {x : Str} (h : (o.kd == x) = true) (h1 : (Str.ofString "integer" == x) = false) (h2 : (Str.ofString "real" == x) = false) (h3 : (Str.ofString "boolean" == x) = false) : False := by
  cases o <;> simp only [Op.kd] at h <;> simp_all

def numF2 (f : Op → Op → Res) (o1 o2 : Op) : Res := if (o1.num && o2.num) = true then f o1 o2 else .bad typecheck
def numF1 (f : Op → Res) (o : Op) : Res := if o.num = true then f o else .bad typecheck
def intF2 (f : Int → Int → Res) : Op → Op → Res
  | .int x, .int y => f x y
  | _, _ => .bad typecheck
theorem n2ok {f : Op → Op → Res} {o1 o2 : Op} {r : Res} (h1 : o1.num = true) (h2 : o2.num = true) (h : f o1 o2 = r) : numF2 f o1 o2 = r := by unfold numF2; rw [h1, h2]; exact h
theorem n2ty {f : Op → Op → Res} {o1 o2 : Op} (h1 : (o1.num && o2.num) = false) : numF2 f o1 o2 = .bad typecheck := by unfold numF2; rw [h1]; rfl
theorem n1ok {f : Op → Res} {o1 : Op} {r : Res} (h1 : o1.num = true) (h : f o1 = r) : numF1 f o1 = r := by unfold numF1; rw [h1]; exact h
theorem n1ty {f : Op → Res} {o1 : Op} (h1 : o1.num = false) : numF1 f o1 = .bad typecheck := by unfold numF1; rw [h1]; rfl
theorem i2ty {f : Int → Int → Res} {o1 o2 : Op} (h1 : (o1.isI && o2.isI) = false) : intF2 f o1 o2 = .bad typecheck := by cases o1 <;> cases o2 <;> first | rfl | cases h1
theorem mono {x y : Res} {z : Op} (h : x = .ok z) (hx : x = y) : y = .ok z := hx ▸ h
theorem realNum {m : Int} {o : Op} (h : realF m = .ok o) : o.num = true := by unfold realF at h; split at h <;> cases h; rfl
theorem wholeNum {m : Int} {o : Op} (h : wholeF m = .ok o) : o.num = true := by
  unfold wholeF at h
  split at h
  · cases h; rfl
  · exact realNum h
theorem negNum {a o : Op} (h : negF a = .ok o) : o.num = true := by
  cases a <;> simp only [negF] at h <;> first | exact wholeNum h | (cases h; rfl)
theorem resNum2 {a b o : Op} (h : addF a b = .ok o ∨ subF a b = .ok o ∨ mulF a b = .ok o ∨ quotF a b = .ok o) : o.num = true := by
  rcases h with h | h | h | h
  · cases a <;> cases b <;> simp only [addF] at h <;> first | exact wholeNum h | exact realNum h
  · cases a <;> cases b <;> simp only [subF] at h <;> first | exact wholeNum h | exact realNum h
  · cases a <;> cases b <;> simp only [mulF] at h <;> first | exact wholeNum h | exact realNum h
  · unfold quotF at h
    split at h
    · cases h
    · exact realNum h
theorem resNum1 {a o : Op} (ha : a.num = true) (h : negF a = .ok o ∨ absF a = .ok o ∨ ceilF a = .ok o ∨ floorF a = .ok o ∨ roundF a = .ok o ∨ truncF a = .ok o) : o.num = true := by
  rcases h with h | h | h | h | h | h
  · exact negNum h
  · unfold absF at h
    split at h
    · exact negNum h
    · cases h; exact ha
  · cases a <;> simp only [ceilF] at h <;> first | exact realNum h | (cases h; exact ha)
  · cases a <;> simp only [floorF] at h <;> first | exact realNum h | (cases h; exact ha)
  · cases a <;> simp only [roundF] at h <;> first | exact realNum h | (cases h; exact ha)
  · cases a <;> simp only [truncF] at h <;> first | (cases h; rfl) | (cases h; exact ha)
theorem memL {l : Led} {TL : Addr} {xs : Array Value} {n : Nat} (h : (TL, listOf xs n) ∈ l) : (TL, listOf xs n) ∈ l := h

theorem i2ok {f : Int → Int → Res} {x y : Int} {r : Res} (h : f x y = r) : intF2 f (.int x) (.int y) = r := h
theorem isI_of {o : Op} (h : o.isI = true) : ∃ x, o = .int x := by cases o with
  | int x => exact ⟨x, rfl⟩
  | real _ => cases h
  | bool _ => cases h
theorem tnSm {x : Int} (h : Tn (Op.mil (.int x))) : Sm x := by
  have h' : -1000000000000000000000 ≤ x * 1000000 ∧ x * 1000000 ≤ 1000000000000000000000 := h
  constructor <;> omega
theorem bothI {o1 o2 : Op} : (∃ x y, o1 = .int x ∧ o2 = .int y) ∨ (o1.isI && o2.isI) = false := by
  cases o1 <;> cases o2 <;> first | exact .inr rfl | exact .inl ⟨_, _, rfl, rfl⟩
theorem andC {a b : Bool} (h : (a && b) = false) : (b && a) = false := by rw [Bool.and_comm]; exact h

inductive Wd where
  | add | sub | mul | div | idiv | mod | neg | abs | ceiling | floor | round | truncate | eq | ne | lt | gt | le | ge
def Wd.str : Wd → Str
  | .add => Str.ofString "add"
  | .sub => Str.ofString "sub"
  | .mul => Str.ofString "mul"
  | .div => Str.ofString "div"
  | .idiv => Str.ofString "idiv"
  | .mod => Str.ofString "mod"
  | .neg => Str.ofString "neg"
  | .abs => Str.ofString "abs"
  | .ceiling => Str.ofString "ceiling"
  | .floor => Str.ofString "floor"
  | .round => Str.ofString "round"
  | .truncate => Str.ofString "truncate"
  | .eq => Str.ofString "eq"
  | .ne => Str.ofString "ne"
  | .lt => Str.ofString "lt"
  | .gt => Str.ofString "gt"
  | .le => Str.ofString "le"
  | .ge => Str.ofString "ge"
def Wd.ad : Wd → Addr
  | .add => 470
  | .sub => 477
  | .mul => 484
  | .div => 491
  | .idiv => 498
  | .mod => 505
  | .neg => 512
  | .abs => 519
  | .ceiling => 526
  | .floor => 533
  | .round => 540
  | .truncate => 547
  | .eq => 561
  | .ne => 568
  | .lt => 575
  | .gt => 582
  | .le => 596
  | .ge => 589
def Wd.un : Wd → Bool
  | .neg | .abs | .ceiling | .floor | .round | .truncate => true
  | _ => false
def machF2 : Wd → Op → Op → Res
  | .add => numF2 addF
  | .sub => numF2 subF
  | .mul => numF2 mulF
  | .div => numF2 quotF
  | .idiv => intF2 idivF
  | .mod => intF2 modF
  | .eq => fun a b => .ok (.bool (eqB a b))
  | .ne => fun a b => .ok (.bool (!eqB a b))
  | .lt => numF2 (fun a b => .ok (.bool (lessB a b)))
  | .gt => numF2 (fun a b => .ok (.bool (lessB b a)))
  | .le => numF2 (fun a b => .ok (.bool (!lessB b a)))
  | .ge => numF2 (fun a b => .ok (.bool (!lessB a b)))
  | _ => fun _ _ => .bad typecheck
def machF1 : Wd → Op → Res
  | .neg => numF1 negF
  | .abs => numF1 absF
  | .ceiling => numF1 ceilF
  | .floor => numF1 floorF
  | .round => numF1 roundF
  | .truncate => numF1 truncF
  | _ => fun _ => .bad typecheck
/-- what a call of the operator at ad does to a machine whose list of operands holds xs -/
def OpDoes (w : World) (p : Program) (lo : List Str) (mean : ExcName → Option Value) (mg mb : Str → Option Value) (ad MA TL : Addr) (xs : Array Value) (news : Led) (RP : Led → Prop) (EP : Array UInt8 → Prop) : Prop :=
  ∀ (dp un : Nat) (gd : Option (List Code)) (cn : Str) (cs : Scope) (a : Addr) (ccd : Value) (cl : List (Str × Addr)) (outer : List Env) (A₀ : Around) (base h₀ : Heap) (L : Addr) (m : Str → Option Value) (s : Shared) (Q E : Value → Shared → Prop) (n : Nat),
    Below A₀ base outer h₀ → Fr h₀ L s.heap m → (Kp w.params).In h₀ → Top p lo mean mg mb h₀ → cs.kind = .function → dp + 60 < recursionLimit → un + 600 < cLine → News h₀ L s.heap ((TL, listOf xs n) :: news) →
    (∀ led h' tk', RP led → Fr h₀ L h' m → News h₀ L h' led → Q .none { s with heap := h', toks := tk' }) →
    (∀ b, EP b → Exc w base h₀ L m (envX cn cs L a ccd cl :: outer) s E b news) →
    wpAny (model Pg w) (ktrTop dp un gd cn cs L a ccd cl outer) (call (.ref ad) [.ref MA]) Q E s
inductive RPr (w : World) (TL b1 b2 : Addr) (news : Led) (r : Res) : Led → Prop where
  | mk (o : Op) (z dz : Addr) (k1 k2 k3 k4 t1 t2 u : Tok) (n : Nat) (h : r = .ok o) : RPr w TL b1 b2 news r ((TL, listOf #[.ref b1, .ref b2, .ref z] n) :: (z, instObj 198 dz) :: (dz, thD w k1 k2 k3 k4 t1 t2 o.kd (o.val u)) :: news)
def EPr (r : Res) : Array UInt8 → Prop := fun b => r = .bad b

theorem is_add {c : Wd} (h : (c.str == Str.ofString "add") = true) : c = .add := by cases c <;> first | rfl | exact absurd h (by decide)
theorem is_sub {c : Wd} (h : (c.str == Str.ofString "sub") = true) : c = .sub := by cases c <;> first | rfl | exact absurd h (by decide)
theorem is_mul {c : Wd} (h : (c.str == Str.ofString "mul") = true) : c = .mul := by cases c <;> first | rfl | exact absurd h (by decide)
theorem is_div {c : Wd} (h : (c.str == Str.ofString "div") = true) : c = .div := by cases c <;> first | rfl | exact absurd h (by decide)
theorem in_im {c : Wd} (h : ([Str.ofString "idiv", Str.ofString "mod"].any (· == c.str)) = true) : c = .idiv ∨ c = .mod := by cases c <;> first | exact absurd h (by decide) | simp
theorem in_nac {c : Wd} (h : ([Str.ofString "neg", Str.ofString "abs", Str.ofString "ceiling"].any (· == c.str)) = true) : c = .neg ∨ c = .abs ∨ c = .ceiling := by cases c <;> first | exact absurd h (by decide) | simp
theorem in_frt {c : Wd} (h : ([Str.ofString "floor", Str.ofString "round", Str.ofString "truncate"].any (· == c.str)) = true) : c = .floor ∨ c = .round ∨ c = .truncate := by cases c <;> first | exact absurd h (by decide) | simp
theorem in_enl {c : Wd} (h : ([Str.ofString "eq", Str.ofString "ne", Str.ofString "lt"].any (· == c.str)) = true) : c = .eq ∨ c = .ne ∨ c = .lt := by cases c <;> first | exact absurd h (by decide) | simp
theorem in_rest {c : Wd} (h0 : (c.str == Str.ofString "add") = false) (h1 : (c.str == Str.ofString "sub") = false) (h2 : (c.str == Str.ofString "mul") = false) (h3 : (c.str == Str.ofString "div") = false) (g0 : ([Str.ofString "idiv", Str.ofString "mod"].any (· == c.str)) = false) (g1 : ([Str.ofString "neg", Str.ofString "abs", Str.ofString "ceiling"].any (· == c.str)) = false) (g2 : ([Str.ofString "floor", Str.ofString "round", Str.ofString "truncate"].any (· == c.str)) = false) (g3 : ([Str.ofString "eq", Str.ofString "ne", Str.ofString "lt"].any (· == c.str)) = false) : c = .gt ∨ c = .le ∨ c = .ge := by
  cases c <;> first | simp; done | exact absurd h0 (by decide) | exact absurd h1 (by decide) | exact absurd h2 (by decide) | exact absurd h3 (by decide) | exact absurd g0 (by decide) | exact absurd g1 (by decide) | exact absurd g2 (by decide) | exact absurd g3 (by decide)
theorem ad_add {c : Wd} (h : (c.str == Str.ofString "add") = true) : c.ad = 470 := by rw [is_add h]; rfl
theorem ad_sub {c : Wd} (h : (c.str == Str.ofString "sub") = true) : c.ad = 477 := by rw [is_sub h]; rfl
theorem ad_mul {c : Wd} (h : (c.str == Str.ofString "mul") = true) : c.ad = 484 := by rw [is_mul h]; rfl
theorem ad_div {c : Wd} (h : (c.str == Str.ofString "div") = true) : c.ad = 491 := by rw [is_div h]; rfl
theorem val_im {c : Wd} {a0 a1 : Tok} (h : ([Str.ofString "idiv", Str.ofString "mod"].any (· == c.str)) = true) : valueAt (strPairs [(.str (Str.ofString "idiv") a0, .ref 498), (.str (Str.ofString "mod") a1, .ref 505)]) c.str = some (.ref c.ad) := by
  rcases in_im h with rfl | rfl <;> first | rfl | kernel_rfl
theorem val_nac {c : Wd} {a0 a1 a2 : Tok} (h : ([Str.ofString "neg", Str.ofString "abs", Str.ofString "ceiling"].any (· == c.str)) = true) : valueAt (strPairs [(.str (Str.ofString "neg") a0, .ref 512), (.str (Str.ofString "abs") a1, .ref 519), (.str (Str.ofString "ceiling") a2, .ref 526)]) c.str = some (.ref c.ad) := by
  rcases in_nac h with rfl | rfl | rfl <;> first | rfl | kernel_rfl
theorem val_frt {c : Wd} {a0 a1 a2 : Tok} (h : ([Str.ofString "floor", Str.ofString "round", Str.ofString "truncate"].any (· == c.str)) = true) : valueAt (strPairs [(.str (Str.ofString "floor") a0, .ref 533), (.str (Str.ofString "round") a1, .ref 540), (.str (Str.ofString "truncate") a2, .ref 547)]) c.str = some (.ref c.ad) := by
  rcases in_frt h with rfl | rfl | rfl <;> first | rfl | kernel_rfl
theorem val_enl {c : Wd} {a0 a1 a2 : Tok} (h : ([Str.ofString "eq", Str.ofString "ne", Str.ofString "lt"].any (· == c.str)) = true) : valueAt (strPairs [(.str (Str.ofString "eq") a0, .ref 561), (.str (Str.ofString "ne") a1, .ref 568), (.str (Str.ofString "lt") a2, .ref 575)]) c.str = some (.ref c.ad) := by
  rcases in_enl h with rfl | rfl | rfl <;> first | rfl | kernel_rfl
theorem val_rest {c : Wd} {a0 a1 a2 : Tok} (h : c = .gt ∨ c = .le ∨ c = .ge) : valueAt (strPairs [(.str (Str.ofString "gt") a0, .ref 582), (.str (Str.ofString "le") a1, .ref 596), (.str (Str.ofString "ge") a2, .ref 589)]) c.str = some (.ref c.ad) := by
  rcases h with rfl | rfl | rfl <;> first | rfl | kernel_rfl
theorem kad (P : Params) (c : Wd) : keepIn (Kp P) (.ref c.ad) = true := by cases c <;> kernel_rfl

def OpOk : Op → Prop
  | .int i => fitsI i
  | .real r => Tn r
  | .bool _ => True
theorem okTn {o : Op} (h : OpOk o) : Tn o.mil := by
  cases o with
  | int i => have h' : fitsI i := h; show Tn (i * 1000000); constructor <;> omega
  | real r => exact h
  | bool b => show Tn 0; constructor <;> decide
/-- the name of an error as a text -/
def txt (b : Array UInt8) : Str := if b = limitcheck then Str.ofString "limitcheck" else if b = undefinedresult then Str.ofString "undefinedresult" else if b = typecheck then Str.ofString "typecheck" else Str.ofString "stackunderflow"
theorem absNe {y : Int} (h : y ≠ 0) : (if y < 0 then -y else y) ≠ 0 := by split <;> omega
theorem absBig {y : Int} (h : Sm y) : Big (if y < 0 then -y else y) := by obtain ⟨h1, h2⟩ := h; constructor <;> split <;> omega
theorem near_eq {a b : Int} (ha : 0 ≤ a) (hb : 0 < b) : (2 * a + b).fdiv (2 * b) = if 2 * a.fmod b ≥ b then a.fdiv b + 1 else a.fdiv b := by
  have e1 := Int.mul_fdiv_add_fmod a b
  have e2 := Int.fmod_nonneg_of_pos a hb
  have e3 := Int.fmod_lt_of_pos a hb
  rw [Int.fdiv_eq_ediv_of_nonneg _ (by omega), Int.fdiv_eq_ediv_of_nonneg _ (by omega)] at *
  rw [Int.fmod_eq_emod_of_nonneg _ (by omega)] at *
  generalize a / b = q at *
  generalize a % b = r at *
  subst e1
  have e : ∀ k : Int, (q + k) * (2 * b) = 2 * (b * q) + 2 * (k * b) := fun k => by rw [Int.add_mul, Int.mul_left_comm q 2 b, Int.mul_left_comm k 2 b, Int.mul_comm q b]
  have e0 : q * (2 * b) = 2 * (b * q) := by rw [Int.mul_left_comm q 2 b, Int.mul_comm q b]
  split
  · refine Int.le_antisymm ?_ ?_
    · refine Int.le_of_lt_add_one (Int.ediv_lt_of_lt_mul (by omega) ?_)
      rw [show q + 1 + 1 = q + 2 by omega, e 2]
      omega
    · refine Int.le_ediv_of_mul_le (by omega) ?_
      rw [e 1]
      omega
  · refine Int.le_antisymm ?_ ?_
    · refine Int.le_of_lt_add_one (Int.ediv_lt_of_lt_mul (by omega) ?_)
      rw [e 1]
      omega
    · refine Int.le_ediv_of_mul_le (by omega) ?_
      rw [e0]
      omega
theorem absPos {y : Int} (h : y ≠ 0) : 0 < absI y := by unfold absI; split <;> omega
theorem absNn (y : Int) : 0 ≤ absI y := by unfold absI; split <;> omega
theorem nrS {x y f : Int} (h : (decide (x < 0) == decide (y < 0)) = true) (hy : y ≠ 0) (hf : (absI y ≤ 2 * (absI x).fmod (absI y) ∧ f = (absI x).fdiv (absI y) + 1) ∨ (¬ absI y ≤ 2 * (absI x).fmod (absI y) ∧ f = (absI x).fdiv (absI y))) : f = dividedF x y := by
  refine dv1 h ?_
  rw [near_eq (absNn x) (absPos hy)]
  rcases hf with ⟨h1, h2⟩ | ⟨h1, h2⟩
  · rw [if_pos h1, h2]
  · rw [if_neg h1, h2]
theorem nrD {x y f g : Int} (h : (decide (x < 0) == decide (y < 0)) = false) (hy : y ≠ 0) (hf : (absI y ≤ 2 * (absI x).fmod (absI y) ∧ g = (absI x).fdiv (absI y) + 1) ∨ (¬ absI y ≤ 2 * (absI x).fmod (absI y) ∧ g = (absI x).fdiv (absI y))) (hg : f = -g) : f = dividedF x y := by
  refine dv2 h ?_
  rw [near_eq (absNn x) (absPos hy), hg]
  rcases hf with ⟨h1, h2⟩ | ⟨h1, h2⟩
  · rw [if_pos h1, h2]
  · rw [if_neg h1, h2]
theorem pw_10_21 {prog : Program} {w : World} {A : Around} {E : Value → Shared → Prop} {s : Shared} {t u : Tok} {Q : Value → Shared → Prop} (h : Q (.int 1000000000000000000000 s.toks) { s with toks := s.toks + 1 }) : wpAny (model prog w) A (binaryOp .Pow (.int 10 t) (.int 21 u)) Q E s :=
  pow_int_small (by decide) (by decide) (by decide) (by rw [show (10 : Int) ^ Int.toNat 21 = 1000000000000000000000 from by decide +kernel]; exact h)
theorem pw_10_6 {prog : Program} {w : World} {A : Around} {E : Value → Shared → Prop} {s : Shared} {t u : Tok} {Q : Value → Shared → Prop} (h : Q (.int 1000000 s.toks) { s with toks := s.toks + 1 }) : wpAny (model prog w) A (binaryOp .Pow (.int 10 t) (.int 6 u)) Q E s :=
  pow_int_small (by decide) (by decide) (by decide) (by rw [show (10 : Int) ^ Int.toNat 6 = 1000000 from by decide +kernel]; exact h)
theorem pw_2_31 {prog : Program} {w : World} {A : Around} {E : Value → Shared → Prop} {s : Shared} {t u : Tok} {Q : Value → Shared → Prop} (h : Q (.int 2147483648 s.toks) { s with toks := s.toks + 1 }) : wpAny (model prog w) A (binaryOp .Pow (.int 2 t) (.int 31 u)) Q E s :=
  pow_int_small (by decide) (by decide) (by decide) (by rw [show (2 : Int) ^ Int.toNat 31 = 2147483648 from by decide +kernel]; exact h)
theorem pw_2_32 {prog : Program} {w : World} {A : Around} {E : Value → Shared → Prop} {s : Shared} {t u : Tok} {Q : Value → Shared → Prop} (h : Q (.int 4294967296 s.toks) { s with toks := s.toks + 1 }) : wpAny (model prog w) A (binaryOp .Pow (.int 2 t) (.int 32 u)) Q E s :=
  pow_int_small (by decide) (by decide) (by decide) (by rw [show (2 : Int) ^ Int.toNat 32 = 4294967296 from by decide +kernel]; exact h)
theorem pw_2_40 {prog : Program} {w : World} {A : Around} {E : Value → Shared → Prop} {s : Shared} {t u : Tok} {Q : Value → Shared → Prop} (h : Q (.int 1099511627776 s.toks) { s with toks := s.toks + 1 }) : wpAny (model prog w) A (binaryOp .Pow (.int 2 t) (.int 40 u)) Q E s :=
  pow_int_small (by decide) (by decide) (by decide) (by rw [show (2 : Int) ^ Int.toNat 40 = 1099511627776 from by decide +kernel]; exact h)

theorem sp_floor (r : Int) : floorF (.real r) = realF (r - r.fmod 1000000) := by
  show realF (r.fdiv 1000000 * 1000000) = _
  have h1 := Int.mul_fdiv_add_fmod r 1000000
  rw [show r.fdiv 1000000 * 1000000 = r - r.fmod 1000000 by omega]
theorem sp_ceil0 {r : Int} (h : r.fmod 1000000 = 0) : ceilF (.real r) = realF (r - r.fmod 1000000) := by
  show realF (-((-r).fdiv 1000000) * 1000000) = _
  have h1 := Int.mul_fdiv_add_fmod r 1000000
  have h2 := Int.mul_fdiv_add_fmod (-r) 1000000
  have h5 := Int.fmod_nonneg_of_pos (-r) (show (0 : Int) < 1000000 by decide)
  have h6 := Int.fmod_lt_of_pos (-r) (show (0 : Int) < 1000000 by decide)
  rw [show -((-r).fdiv 1000000) * 1000000 = r - r.fmod 1000000 by omega]
theorem sp_ceil1 {r : Int} (h : ¬ r.fmod 1000000 = 0) : ceilF (.real r) = realF (r - r.fmod 1000000 + 1000000) := by
  show realF (-((-r).fdiv 1000000) * 1000000) = _
  have h1 := Int.mul_fdiv_add_fmod r 1000000
  have h2 := Int.mul_fdiv_add_fmod (-r) 1000000
  have h3 := Int.fmod_nonneg_of_pos r (show (0 : Int) < 1000000 by decide)
  have h4 := Int.fmod_lt_of_pos r (show (0 : Int) < 1000000 by decide)
  have h5 := Int.fmod_nonneg_of_pos (-r) (show (0 : Int) < 1000000 by decide)
  have h6 := Int.fmod_lt_of_pos (-r) (show (0 : Int) < 1000000 by decide)
  rw [show -((-r).fdiv 1000000) * 1000000 = r - r.fmod 1000000 + 1000000 by omega]
theorem sp_roundE {r x : Int} (h : x = if 500000 ≤ r.fmod 1000000 then r - r.fmod 1000000 + 1000000 else r - r.fmod 1000000) : roundF (.real r) = realF x := by
  show realF ((2 * r + 1000000).fdiv 2000000 * 1000000) = _
  have h1 := Int.mul_fdiv_add_fmod r 1000000
  have h2 := Int.mul_fdiv_add_fmod (2 * r + 1000000) 2000000
  have h3 := Int.fmod_nonneg_of_pos r (show (0 : Int) < 1000000 by decide)
  have h4 := Int.fmod_lt_of_pos r (show (0 : Int) < 1000000 by decide)
  have h5 := Int.fmod_nonneg_of_pos (2 * r + 1000000) (show (0 : Int) < 2000000 by decide)
  have h6 := Int.fmod_lt_of_pos (2 * r + 1000000) (show (0 : Int) < 2000000 by decide)
  have e : (2 * r + 1000000).fdiv 2000000 * 1000000 = x := by split at h <;> omega
  rw [e]
theorem sp_truncE {r x : Int} (hr : Tn r) (h : x = if r < 0 ∧ ¬ r.fmod 1000000 = 0 then r - r.fmod 1000000 + 1000000 else r - r.fmod 1000000) : truncF (.real r) = realF x := by
  have h1 := Int.mul_fdiv_add_fmod r 1000000
  have h2 := Int.mul_fdiv_add_fmod (-r) 1000000
  have h3 := Int.fmod_nonneg_of_pos r (show (0 : Int) < 1000000 by decide)
  have h4 := Int.fmod_lt_of_pos r (show (0 : Int) < 1000000 by decide)
  have h5 := Int.fmod_nonneg_of_pos (-r) (show (0 : Int) < 1000000 by decide)
  have h6 := Int.fmod_lt_of_pos (-r) (show (0 : Int) < 1000000 by decide)
  obtain ⟨g1, g2⟩ := hr
  by_cases hn : r < 0
  · have e : -((absI r).fdiv 1000000 * 1000000) = x := by
      unfold absI
      rw [if_pos hn]
      split at h <;> omega
    rw [tP hn, e]
    exact (rOk (by constructor <;> omega)).symm
  · have e : (absI r).fdiv 1000000 * 1000000 = x := by
      unfold absI
      rw [if_neg hn]
      split at h <;> omega
    rw [tN hn, e]
    exact (rOk (by constructor <;> omega)).symm
theorem sp_roundT {r x : Int} {y : Res} (h2 : realF x = y) (h : x = if 500000 ≤ r.fmod 1000000 then r - r.fmod 1000000 + 1000000 else r - r.fmod 1000000) : roundF (.real r) = y := (sp_roundE h).trans h2
theorem sp_truncT {r x : Int} {y : Res} (h2 : realF x = y) (hr : Tn r) (h : x = if r < 0 ∧ ¬ r.fmod 1000000 = 0 then r - r.fmod 1000000 + 1000000 else r - r.fmod 1000000) : truncF (.real r) = y := (sp_truncE hr h).trans h2
theorem sp_negR {r : Int} (h : Tn r) : negF (.real r) = realF (-r) := by
  show Res.ok (.real (-r)) = realF (-r)
  have h1 := h.1
  have h2 := h.2
  exact (rOk (by constructor <;> omega)).symm
theorem sp_absI1 {i : Int} (h : i < 0) : absF (.int i) = wholeF (-i) := by unfold absF; rw [if_pos (show Op.mil (.int i) < 0 from by show i * 1000000 < 0; omega)]; rfl
theorem sp_absI0 {i : Int} (h : ¬ i < 0) (hi : fitsI i) : absF (.int i) = wholeF i := by unfold absF wholeF; rw [if_neg (show ¬ Op.mil (.int i) < 0 from by show ¬ i * 1000000 < 0; omega), if_pos hi]
theorem sp_absR1 {r : Int} (h : r < 0) (hr : Tn r) : absF (.real r) = realF (-r) := by rw [absR h]; exact (rOk (by obtain ⟨h1, h2⟩ := hr; constructor <;> omega)).symm
theorem sp_absR0 {r : Int} (h : ¬ r < 0) (hr : Tn r) : absF (.real r) = realF r := by unfold absF; rw [if_neg (show ¬ Op.mil (.real r) < 0 from h)]; exact (rOk hr).symm

section
open PySem PySem.W PyProof.Rows PySem.Spec PySem.Calls
section
variable {prog : Program} {w : World} {A : Around} {E : Value → Shared → Prop} {s : Shared}
theorem eqStr {a b : Str} {k u : Tok} {r : Bool} {Q : Bool → Shared → Prop} (hr : (a.cps.toList == b.cps.toList) = r) (h : Q r s) : wpAny (model prog w) A (eqBool (.str a k) (.str b u)) Q E s :=
  PySem.SeqRoads2.EqGives.str a b k u _ _ _ _ _ _ (hr ▸ h)
/-- the loop of tuple.index over texts: the first place that holds x -/
theorem idx_loop {xs : Array Value} {x : Str} {u : Tok} {j : Nat} {Q : Option PySem.Fin × Unit → Shared → Prop} (hno : ∀ m, m < j → ∃ a k, xs[m]? = some (.str a k) ∧ (a.cps.toList == x.cps.toList) = false)
    (hit : ∃ a k, xs[j]? = some (.str a k) ∧ (a.cps.toList == x.cps.toList) = true) (hq : Q (some (.done (.ret (.int j s.toks))), ()) { s with toks := s.toks + 1 }) : ∀ (n i : Nat), i ≤ j → j < i + n →
    wpAny (model prog w) A (forIn (List.range' i n) ((none, ()) : Option PySem.Fin × Unit) (fun (i : Nat) (_ : Option PySem.Fin × Unit) =>
      match xs[i]? with
      | some y => do
        let b ← eqBool y (.str x u)
        if b = true then do
          let v ← retInt (i : Int)
          pure (ForInStep.done (some v, ()))
        else pure (ForInStep.yield (none, ()))
      | _ => pure (ForInStep.yield (none, ())))) Q E s
  | 0, i, h1, h2 => by omega
  | n + 1, i, h1, h2 => by
    rw [List.range'_succ, List.forIn_cons]
    refine wpAny_bind ?_
    by_cases hij : i = j
    · subst hij
      obtain ⟨a, k, e, q⟩ := hit
      simp only [e]
      refine wpAny_bind (eqStr q ?_)
      rw [if_pos rfl]
      wp_walk
      exact hq
    · obtain ⟨a, k, e, q⟩ := hno i (by omega)
      simp only [e]
      refine wpAny_bind (eqStr q ?_)
      rw [if_neg (by decide)]
      refine wpAny_pure ?_
      exact idx_loop hno hit hq n (i + 1) (by omega) (by omega)
theorem tup_index {t : Addr} {xs : Array Value} {nn : Nat} {x : Str} {u : Tok} {j : Nat} {Q : Value → Shared → Prop} (ht : s.heap.get? t = some ({ cls := .type "tuple", data := .seq xs nn } : Obj)) (hj : j < xs.size)
    (hno : ∀ m, m < j → ∃ a k, xs[m]? = some (.str a k) ∧ (a.cps.toList == x.cps.toList) = false) (hit : ∃ a k, xs[j]? = some (.str a k) ∧ (a.cps.toList == x.cps.toList) = true)
    (h : Q (.int j s.toks) { s with toks := s.toks + 1 }) : wpAny (model prog w) A (call (.builtin "tuple.index") [.ref t, .str x u]) Q E s := by
  have SF := PySem.F.slot_tuple_index
  have hT : s.TypeIs (.ref t) "tuple" := ⟨_, ht, rfl⟩
  refine wpAny_call (codeAny_call_builtin SF.plain PySem.F.entry_tuple_index (SF.check _ _ _ _ _ _ _ _ hT (PySem.F.args_tuple_index_2 _ _) ?_))
  obtain ⟨hh, g, dr, tk, os⟩ := s
  simp only [Builtin.«tuple.index», Std.Legacy.Range.forIn_eq_forIn_range']
  repeat (first | with_reducible refine wpAny_loadPart' ht ?_ | (refine idx_loop hno hit ?_ _ 0 (Nat.zero_le _) ?_) | wp_step)
  · exact h
  · simp only [Std.Legacy.Range.size, Nat.min_self]; omega
theorem tup_meth {h₀ : Heap} {L t : Addr} {news : Led} {xs : Array Value} {nn : Nat} {pl : Sem Bool} {Q : Value × List Value → Shared → Prop} (N : News h₀ L s.heap news) (hm : (t, ({ cls := .type "tuple", data := .seq xs nn } : Obj)) ∈ news)
    (h : Q (.builtin "tuple.index", [.ref t]) s) : wpAny (model prog w) A (getMethod (.ref t) (Str.ofString "index") pl) Q E s :=
  getMethod_builtin ⟨_, (N _ hm).1, rfl⟩ PySem.F.plainAttrs_tuple PySem.F.slot_tuple_index PySem.F.type_tuple_index (fun a e => by cases e; exact ⟨_, (N _ hm).1, rfl⟩) h
theorem idx_eq {h₀ : Heap} {L t : Addr} {news : Led} {k1 k2 k3 k4 k5 k6 u : Tok} {Q : Value → Shared → Prop} (N : News h₀ L s.heap news) (hm : (t, ({ cls := .type "tuple", data := .seq #[.str (Str.ofString "eq") k1, .str (Str.ofString "ne") k2, .str (Str.ofString "lt") k3, .str (Str.ofString "gt") k4, .str (Str.ofString "le") k5, .str (Str.ofString "ge") k6] } : Obj)) ∈ news)
    (h : Q (.int 0 s.toks) { s with toks := s.toks + 1 }) : wpAny (model prog w) A (call (.builtin "tuple.index") [.ref t, .str (Str.ofString "eq") u]) Q E s :=
  tup_index (j := 0) (N _ hm).1 (show _ < 6 from by decide) (fun m hm => by
    match m, hm with
    | m + 0, hm => exact absurd hm (by omega)) ⟨_, _, rfl, by decide⟩ h
theorem idx_ne {h₀ : Heap} {L t : Addr} {news : Led} {k1 k2 k3 k4 k5 k6 u : Tok} {Q : Value → Shared → Prop} (N : News h₀ L s.heap news) (hm : (t, ({ cls := .type "tuple", data := .seq #[.str (Str.ofString "eq") k1, .str (Str.ofString "ne") k2, .str (Str.ofString "lt") k3, .str (Str.ofString "gt") k4, .str (Str.ofString "le") k5, .str (Str.ofString "ge") k6] } : Obj)) ∈ news)
    (h : Q (.int 1 s.toks) { s with toks := s.toks + 1 }) : wpAny (model prog w) A (call (.builtin "tuple.index") [.ref t, .str (Str.ofString "ne") u]) Q E s :=
  tup_index (j := 1) (N _ hm).1 (show _ < 6 from by decide) (fun m hm => by
    match m, hm with
    | 0, _ => exact ⟨_, _, rfl, by decide⟩
    | m + 1, hm => exact absurd hm (by omega)) ⟨_, _, rfl, by decide⟩ h
theorem idx_lt {h₀ : Heap} {L t : Addr} {news : Led} {k1 k2 k3 k4 k5 k6 u : Tok} {Q : Value → Shared → Prop} (N : News h₀ L s.heap news) (hm : (t, ({ cls := .type "tuple", data := .seq #[.str (Str.ofString "eq") k1, .str (Str.ofString "ne") k2, .str (Str.ofString "lt") k3, .str (Str.ofString "gt") k4, .str (Str.ofString "le") k5, .str (Str.ofString "ge") k6] } : Obj)) ∈ news)
    (h : Q (.int 2 s.toks) { s with toks := s.toks + 1 }) : wpAny (model prog w) A (call (.builtin "tuple.index") [.ref t, .str (Str.ofString "lt") u]) Q E s :=
  tup_index (j := 2) (N _ hm).1 (show _ < 6 from by decide) (fun m hm => by
    match m, hm with
    | 0, _ => exact ⟨_, _, rfl, by decide⟩
    | 1, _ => exact ⟨_, _, rfl, by decide⟩
    | m + 2, hm => exact absurd hm (by omega)) ⟨_, _, rfl, by decide⟩ h
theorem idx_gt {h₀ : Heap} {L t : Addr} {news : Led} {k1 k2 k3 k4 k5 k6 u : Tok} {Q : Value → Shared → Prop} (N : News h₀ L s.heap news) (hm : (t, ({ cls := .type "tuple", data := .seq #[.str (Str.ofString "eq") k1, .str (Str.ofString "ne") k2, .str (Str.ofString "lt") k3, .str (Str.ofString "gt") k4, .str (Str.ofString "le") k5, .str (Str.ofString "ge") k6] } : Obj)) ∈ news)
    (h : Q (.int 3 s.toks) { s with toks := s.toks + 1 }) : wpAny (model prog w) A (call (.builtin "tuple.index") [.ref t, .str (Str.ofString "gt") u]) Q E s :=
  tup_index (j := 3) (N _ hm).1 (show _ < 6 from by decide) (fun m hm => by
    match m, hm with
    | 0, _ => exact ⟨_, _, rfl, by decide⟩
    | 1, _ => exact ⟨_, _, rfl, by decide⟩
    | 2, _ => exact ⟨_, _, rfl, by decide⟩
    | m + 3, hm => exact absurd hm (by omega)) ⟨_, _, rfl, by decide⟩ h
theorem idx_le {h₀ : Heap} {L t : Addr} {news : Led} {k1 k2 k3 k4 k5 k6 u : Tok} {Q : Value → Shared → Prop} (N : News h₀ L s.heap news) (hm : (t, ({ cls := .type "tuple", data := .seq #[.str (Str.ofString "eq") k1, .str (Str.ofString "ne") k2, .str (Str.ofString "lt") k3, .str (Str.ofString "gt") k4, .str (Str.ofString "le") k5, .str (Str.ofString "ge") k6] } : Obj)) ∈ news)
    (h : Q (.int 4 s.toks) { s with toks := s.toks + 1 }) : wpAny (model prog w) A (call (.builtin "tuple.index") [.ref t, .str (Str.ofString "le") u]) Q E s :=
  tup_index (j := 4) (N _ hm).1 (show _ < 6 from by decide) (fun m hm => by
    match m, hm with
    | 0, _ => exact ⟨_, _, rfl, by decide⟩
    | 1, _ => exact ⟨_, _, rfl, by decide⟩
    | 2, _ => exact ⟨_, _, rfl, by decide⟩
    | 3, _ => exact ⟨_, _, rfl, by decide⟩
    | m + 4, hm => exact absurd hm (by omega)) ⟨_, _, rfl, by decide⟩ h
theorem idx_ge {h₀ : Heap} {L t : Addr} {news : Led} {k1 k2 k3 k4 k5 k6 u : Tok} {Q : Value → Shared → Prop} (N : News h₀ L s.heap news) (hm : (t, ({ cls := .type "tuple", data := .seq #[.str (Str.ofString "eq") k1, .str (Str.ofString "ne") k2, .str (Str.ofString "lt") k3, .str (Str.ofString "gt") k4, .str (Str.ofString "le") k5, .str (Str.ofString "ge") k6] } : Obj)) ∈ news)
    (h : Q (.int 5 s.toks) { s with toks := s.toks + 1 }) : wpAny (model prog w) A (call (.builtin "tuple.index") [.ref t, .str (Str.ofString "ge") u]) Q E s :=
  tup_index (j := 5) (N _ hm).1 (show _ < 6 from by decide) (fun m hm => by
    match m, hm with
    | 0, _ => exact ⟨_, _, rfl, by decide⟩
    | 1, _ => exact ⟨_, _, rfl, by decide⟩
    | 2, _ => exact ⟨_, _, rfl, by decide⟩
    | 3, _ => exact ⟨_, _, rfl, by decide⟩
    | 4, _ => exact ⟨_, _, rfl, by decide⟩
    | m + 5, hm => exact absurd hm (by omega)) ⟨_, _, rfl, by decide⟩ h
end
end
section
open PySem PySem.W PyProof.Rows PySem.Spec PySem.Calls PyProof.Rows.LCg
section
variable {prog : Program} {w : World} {A : Around} {E : Value → Shared → Prop} {s : Shared} {h₀ : Heap} {L : Addr} {m : Str → Option Value} {env : Env}

theorem tupGo {elts : List Expr} {k1 : Nat} {pos : Pos} {I t T : Addr} {i : Nat} {Q : Unit → Shared → Prop} (hit : s.heap.IsTupleIter I t i) (hQ : Q () s) :
    wpAny (model prog w) A (letOwnedTupleGo (.Tuple elts k1 pos) (.ref I) (.ref T)) Q E s := by
  obtain ⟨⟨c, dd, dat, sl⟩, ho, hc, hd⟩ := hit
  subst hc hd
  unfold letOwnedTupleGo
  refine wpAny_bind (wpAny_load ho ?_)
  dsimp only
  split
  · rename_i hb
    exact absurd hb (by rw [show (["enumerate", "zip", "dict_itemiterator", "dict_reverseitemiterator", "odict_iterator", "itertools.zip_longest", "itertools.pairwise"].contains "tuple_iterator") = false from by decide, Bool.false_and]; decide)
  · exact wpAny_pure hQ

def Mid (H : Heap) (t I : Addr) (i : Nat) (ys : List Value) (h : Heap) : Prop :=
  h.IsTupleIter I t i ∧ (∃ m', h.Ns (I + 1 + 1) m') ∧ h.get? (I + 1) = some (lst ys) ∧ ∀ z o, H.get? z = some o → h.get? z = some o

/-- what the list comprehension over a tuple of two pairs asks -/
inductive TwoSrc (prog : Program) (w : World) (A : Around) (h₀ : Heap) (L : Addr) (m : Str → Option Value) (env : Env) (elt : Expr) (x x₂ : Str) (scope : Scope) (cl : List (Str × Addr)) (Q : Value → Shared → Prop) (xv : Value) (s₁ : Shared) : Prop where
  | mk (t a b : Addr) (ot oa ob : Obj) (a1 a2 b1 b2 : Value) (nt na nb : Nat) (news : Led) (R : Nat → Value → Prop) (e : xv = .ref t) (F : Fr h₀ L s₁.heap m) (N : News h₀ L s₁.heap news)
    (hmt : (t, ot) ∈ news) (hct : ot.cls = .type "tuple") (hdt : ot.data = .seq #[.ref a, .ref b] nt) (hma : (a, oa) ∈ news) (hca : oa.cls = .type "tuple") (hda : oa.data = .seq #[a1, a2] na) (hmb : (b, ob) ∈ news) (hcb : ob.cls = .type "tuple") (hdb : ob.data = .seq #[b1, b2] nb)
    (elem : ∀ j v1 v2, ((j = 0 ∧ v1 = a1 ∧ v2 = a2) ∨ (j = 1 ∧ v1 = b1 ∧ v2 = b2)) → ∀ C oC m₂ h tk (Q' E' : Value → Shared → Prop), NsObj oC m₂ → m₂ x = some v1 → m₂ x₂ = some v2 → Fr h₀ L h m → News h₀ L h ((C, oC) :: news) →
      (∀ v tk', R j v → Q' v { s₁ with heap := h, toks := tk' }) → wpAny (model prog w) A (eval elt (compEnvC scope cl C env)) Q' E' { s₁ with heap := h, toks := tk })
    (fin : ∀ D h tk v0 v1, R 0 v0 → R 1 v1 → Fr h₀ L h m → News h₀ L h ((D, lst [v0, v1]) :: news) → Q (.ref D) { s₁ with heap := h, toks := tk }) : TwoSrc prog w A h₀ L m env elt x x₂ scope cl Q xv s₁
inductive TwoInv (H : Heap) (t I : Addr) (R : Nat → Value → Prop) (s₀ : Shared) (k : Nat) (s' : Shared) : Prop where
  | mk (h : Heap) (tk i : Nat) (ys : List Value) (e : s' = ⟨h, s₀.gens, s₀.drawn, tk, s₀.os⟩) (hi : i ≤ 2) (hk : k = 3 - i) (hl : ys.length = i) (hR : ∀ j v, ys[j]? = some v → R j v) (mi : h.IsTupleIter I t i) (m' : Str → Option Value) (mn : h.Ns (I + 1 + 1) m') (ml : h.get? (I + 1) = some (lst ys)) (mk : ∀ z o, H.get? z = some o → h.get? z = some o) : TwoInv H t I R s₀ k s'
theorem two_pick {P : Prop} {a b : Addr} {oa ob : Obj} {a1 a2 b1 b2 : Value} {na nb i : Nat} {news : Led} {v : Value} (hlt : i < 2) (hv : (#[Value.ref a, Value.ref b] : Array Value)[i]? = some v) (hma : (a, oa) ∈ news) (hca : oa.cls = .type "tuple") (hda : oa.data = .seq #[a1, a2] na) (hmb : (b, ob) ∈ news) (hcb : ob.cls = .type "tuple") (hdb : ob.data = .seq #[b1, b2] nb)
    (k : ∀ (T : Addr) (oT : Obj) (v1 v2 : Value) (nT : Nat), v = .ref T → (T, oT) ∈ news → oT.cls = .type "tuple" → oT.data = .seq #[v1, v2] nT → ((i = 0 ∧ v1 = a1 ∧ v2 = a2) ∨ (i = 1 ∧ v1 = b1 ∧ v2 = b2)) → P) : P := by
  rcases i with _ | _ | i
  · exact k a oa a1 a2 na (Option.some.inj hv).symm hma hca hda (.inl ⟨rfl, rfl, rfl⟩)
  · exact k b ob b1 b2 nb (Option.some.inj hv).symm hmb hcb hdb (.inr ⟨rfl, rfl, rfl⟩)
  · omega
theorem two_last {P : Prop} {ys : List Value} (hl : ys.length = 2) (k : ∀ v0 v1, ys = [v0, v1] → P) : P := by
  match ys, hl with
  | [v0, v1], _ => exact k v0 v1 rfl

theorem twoC {elt iter : Expr} {x x₂ : Str} {px px₂ tp : Pos} {kk : Nat} {scope : Scope} {cl : List (Str × Addr)} {pos : Pos} {Q : Value → Shared → Prop}
    (_F₀ : Fr h₀ L s.heap m) (hh : A.handled = none) (hclos : closureFor scope env = pure cl) (hcell : ∀ y ∈ scope.names, y.2 ≠ .cell) (hkind : scope.kind = .function)
    (hnames : ∀ y ∈ scope.names, y.2 = .local → scope.names.lookup y.1 = some .local) (hx : scope.names.lookup x = some .local) (hx₂ : scope.names.lookup x₂ = some .local) (hxx : x ≠ x₂)
    (h : wpAny (model prog w) A (eval iter env) (TwoSrc prog w A h₀ L m env elt x x₂ scope cl Q) E s)
    (hs : ∀ z, foldedSetIterable iter env z = pure z := by intro _; rfl) :
    wpAny (model prog w) A (eval (.ListComp elt [⟨.Tuple [.Name x px, .Name x₂ px₂] kk tp, iter, [], 0⟩] scope pos) env) Q E s := by
  rw [eval_ListComp]
  refine wpAny_comprehension_free (use := none) rfl hs hclos hkind hnames (wpAny_mono h (fun xv s₁ hsrc => ?_) fun _ _ e => e)
  obtain ⟨t, a, b, ot, oa, ob, a1, a2, b1, b2, nt, na, nb, news, R, rfl, F, N, hmt, hct, hdt, hma, hca, hda, hmb, hcb, hdb, elem, fin⟩ := hsrc
  have ht : s₁.heap.IsTuple t #[.ref a, .ref b] := ⟨ot, (N _ hmt).1, hct, nt, hdt⟩
  refine wpAny_pyIter_tuple ht ?_
  -- the addresses made: I the iterator, D the list, C the names
  obtain ⟨H, gg, dr, tk₁, os₁⟩ := s₁
  dsimp only at *
  have szt : t < H.objs.size := Heap.lt_size (N _ hmt).1
  have szL : L < H.objs.size := F.ns.lt
  have un : ∀ z, H.objs.size ≤ z → h₀.get? z = none := fun z hz => by
    cases e : h₀.get? z with
    | none => rfl
    | some o => exact absurd (Heap.lt_size (F.keep z o e)) (Nat.not_lt.mpr hz)
  generalize hI : H.objs.size = I at *
  refine wpAny_newObj_type (wpAny_newFunctionEnv hcell (by intro y hy; simp at hy) (fun h₁ hns₁ hsb₁ => ?_) hkind)
  dsimp only at hns₁ hsb₁ ⊢
  simp only [Heap.size_push, hI] at hns₁ hsb₁ ⊢
  have lt_ : ∀ z o, H.get? z = some o → z < I := fun z o e => hI ▸ Heap.lt_size e
  have zN : ∀ z o, H.get? z = some o → @Ne Nat z I ∧ @Ne Nat z (I + 1) ∧ @Ne Nat z (I + 1 + 1) := fun z o e => by
    have h9 : @LT.lt Nat _ z I := lt_ z o e
    refine ⟨?_, ?_, ?_⟩ <;> omega
  have q1 : @Ne Nat I (I + 1 + 1) := by omega
  have q2 : @Ne Nat I (I + 1) := by omega
  have q3 : @Ne Nat (I + 1) (I + 1 + 1) := by omega
  have q4 : @Ne Nat (I + 1) L ∧ @Ne Nat (I + 1 + 1) L := by
    have h9 : @LT.lt Nat _ L I := szL
    constructor <;> omega
  have old₁ : ∀ z o, H.get? z = some o → h₁.get? z = some o := fun z o e =>
    hsb₁.extBut z o (zN z o e).2.2 (Heap.get?_push_of_some _ (Heap.get?_push_of_some _ (Heap.get?_push_of_some _ e)))
  have mid₀ : Mid H t I 0 [] h₁ := by
    refine ⟨⟨_, hsb₁.extBut I _ q1 (Heap.get?_push_of_some _ (Heap.get?_push_of_some _ (hI ▸ Heap.get?_push_size _ rfl))), rfl, rfl⟩, ⟨_, hns₁⟩, ?_, old₁⟩
    refine hsb₁.extBut (I + 1) _ q3 (Heap.get?_push_of_some _ ?_)
    have e : (H.push { cls := Value.type "tuple_iterator", data := Data.fields #[Value.ref t, Value.int 0 0] }).objs.size = I + 1 := by rw [Heap.size_push, hI]
    exact e ▸ Heap.get?_push_size _ rfl
  have W := Walks.tuple (prog := prog) (w := w) hh I t (Nat.ne_of_lt szt) #[.ref a, .ref b]
  have tupAt : ∀ {h : Heap}, (∀ z o, H.get? z = some o → h.get? z = some o) → h.IsTuple t #[.ref a, .ref b] := fun k => ⟨ot, k _ _ (N _ hmt).1, hct, nt, hdt⟩
  have dI : h₀.get? (I + 1) = none := un _ (by omega)
  have dC : h₀.get? (I + 1 + 1) = none := un _ (by omega)
  have loop : codeAny (model prog w) A (.compLoop (.ListComp elt [⟨.Tuple [.Name x px, .Name x₂ px₂] kk tp, iter, [], 0⟩] scope pos) 0 (.ref I) (.ref (I + 1)) (compEnvC scope cl (I + 1 + 1) env))
      (compPost (model prog w) A E none Q (.ref (I + 1)) (I + 1 + 1)) ⟨h₁, gg, dr, tk₁, os₁⟩ := by
    refine LCp.codeAny_compLoop_pair (TwoInv H t I R ⟨H, gg, dr, tk₁, os₁⟩) ?_ 3
      ⟨h₁, _, 0, [], rfl, by omega, rfl, rfl, by simp, mid₀.1, _, hns₁, mid₀.2.2.1, old₁⟩
    rintro k s' ⟨h, tk, i, ys, rfl, hi, rfl, hl, hR, mi, m', mn, ml, mk⟩
    by_cases hlt : i < 2
    · refine W.item i _ _ _ hlt ⟨mi, tupAt mk⟩ fun v h2 tk2 hv st2 k2 => ?_
      have o2 : ∀ z o, z ≠ I → h.get? z = some o → h2.get? z = some o := fun z o hz e => k2 z o (by simpa using hz) e
      have m2 : ∀ z o, H.get? z = some o → h2.get? z = some o := fun z o e => o2 z o (Nat.ne_of_lt (lt_ z o e)) (mk z o e)
      refine two_pick hlt hv hma hca hda hmb hcb hdb fun T oT v1 v2 nT e hmT hcT hdT hj => ?_
      subst e
      refine tupGo st2.1 ?_
      refine assign_Tuple_tuple hh ⟨oT, m2 _ _ (N _ hmT).1, hcT, nT, hdT⟩ rfl rfl fun h3 e3 => ?_
      have o3 : ∀ z o, h2.get? z = some o → h3.get? z = some o := fun z o e => e3 z o (Nat.ne_of_lt (Heap.lt_size e)) e
      have n3 : h3.Ns (I + 1 + 1) m' := (mn.at' fun o e => o2 _ o (Ne.symm q1) e).at' fun o e => o3 _ o e
      refine assignInOrder_cons (wpAny_assign_Name (wpAny_storeName_local (lookup_relabel_local hx) n3 (fun h4 n4 s4 => ?_) (by simp [compEnvC, relabel, hkind])))
      refine assignInOrder_cons (wpAny_assign_Name (wpAny_storeName_local (lookup_relabel_local hx₂) n4 (fun h5 n5 s5 => ?_) (by simp [compEnvC, relabel, hkind])))
      refine assignInOrder_nil ?_
      have o5 : ∀ z o, z ≠ I + 1 + 1 → h2.get? z = some o → h5.get? z = some o := fun z o hz e => s5.extBut z o hz (s4.extBut z o hz (o3 z o e))
      have m5 : ∀ z o, H.get? z = some o → h5.get? z = some o := fun z o e => o5 z o (zN z o e).2.2 (m2 z o e)
      obtain ⟨oC, eC, hoC⟩ := ns_obj n5
      have N5 : News h₀ L h5 ((I + 1 + 1, oC) :: news) := fun p hp => by
        rcases List.mem_cons.mp hp with rfl | hp
        · exact ⟨eC, q4.2, dC⟩
        · exact ⟨m5 _ _ (N p hp).1, (N p hp).2⟩
      refine elem i v1 v2 hj (I + 1 + 1) oC _ h5 _ _ _ hoC (by simp [hxx]) (by simp) (F.keptAll m5) N5 fun v tk' hv' => ?_
      have l5 : h5.get? (I + 1) = some (lst ys) := o5 _ _ q3 (o2 _ _ (Ne.symm q2) ml)
      refine append_at (hsz := by show ys.toArray.size ≤ sizeLine; rw [List.size_toArray, hl]; exact Nat.le_trans hi (by decide +kernel)) l5 fun h6 s6 l6 => ?_
      refine ⟨3 - (i + 1), by omega, h6, tk', i + 1, ys ++ [v], rfl, hlt, rfl, by rw [List.length_append, hl]; rfl, fun j z hz => ?_, ?_, _, n5.sameBut s6 (Ne.symm q3), l6.trans (congrArg some (lst_snoc ys v)), fun z o e => s6.extBut z o (zN z o e).2.1 (m5 z o e)⟩
      · rcases Nat.lt_trichotomy j ys.length with hj' | hj' | hj'
        · exact hR j z (by rw [List.getElem?_append_left hj'] at hz; exact hz)
        · subst hj'
          rw [List.getElem?_append_right (Nat.le_refl _), Nat.sub_self] at hz
          obtain rfl : v = z := Option.some.inj hz
          exact hl ▸ hv'
        · rw [List.getElem?_eq_none (by rw [List.length_append]; exact hj')] at hz
          cases hz
      · have : h5.IsTupleIter I t (i + 1) := by
          obtain ⟨o, e, r⟩ := st2.1
          exact ⟨o, o5 _ _ q1 e, r⟩
        obtain ⟨o, e, r⟩ := this
        exact ⟨o, s6.extBut _ _ q2 e, r⟩
    · obtain rfl : i = 2 := Nat.le_antisymm hi (Nat.not_lt.mp hlt)
      refine W.done _ _ _ ⟨mi, tupAt mk⟩ fun h2 tk2 k2 => ?_
      have o2 : ∀ z o, z ≠ I → h.get? z = some o → h2.get? z = some o := fun z o hz e => k2 z o (by simpa using hz) e
      have m2 : ∀ z o, H.get? z = some o → h2.get? z = some o := fun z o e => o2 z o (Nat.ne_of_lt (lt_ z o e)) (mk z o e)
      refine two_last hl fun v0 v1 e => ?_
      subst e
      refine ⟨m', mn.at' fun o e => o2 _ o (Ne.symm q1) e, fun h3 s3 => ?_⟩
      have m3 : ∀ z o, H.get? z = some o → h3.get? z = some o := fun z o e => s3.extBut z o (zN z o e).2.2 (m2 z o e)
      refine fin (I + 1) h3 tk2 v0 v1 (hR 0 v0 rfl) (hR 1 v1 rfl) (F.keptAll m3) fun p hp => ?_
      rcases List.mem_cons.mp hp with rfl | hp
      · exact ⟨s3.extBut _ _ q3 (o2 _ _ (Ne.symm q2) ml), q4.1, dI⟩
      · exact ⟨m3 _ _ (N p hp).1, (N p hp).2⟩
  exact codeAny_compStart_list loop (W.self 0 _ _ _ ⟨mid₀.1, tupAt old₁⟩ loop)

/-- the element "value * 10 ** 6 if kind == 'integer' else value" over two operands -/
theorem TwoSrc.mil {elt : Expr} {x x₂ : Str} {scope : Scope} {cl : List (Str × Addr)} {Q : Value → Shared → Prop} {t a b : Addr} {o1 o2 : Op} {t1 t2 t3 t4 : Tok} {news : Led} {s₁ : Shared}
    (F : Fr h₀ L s₁.heap m) (N : News h₀ L s₁.heap news) (hm : (t, ({ cls := .type "tuple", data := .seq #[.ref a, .ref b] } : Obj)) ∈ news) (ha : (a, tupO o1 t1 t2) ∈ news) (hb : (b, tupO o2 t3 t4) ∈ news)
    (hn1 : o1.num = true) (hn2 : o2.num = true) (hz1 : Tn o1.mil) (hz2 : Tn o2.mil)
    (eI : ∀ (i : Int) (u1 u2 : Tok) C oC m₂ h tk (Q' E' : Value → Shared → Prop), -1000000000000000000000 ≤ i * 1000000 → i * 1000000 ≤ 1000000000000000000000 → NsObj oC m₂ → m₂ x = some (.str (Str.ofString "integer") u1) → m₂ x₂ = some (.int i u2) → Fr h₀ L h m → News h₀ L h ((C, oC) :: news) →
      (∀ u tk', Q' (.int (i * 1000000) u) { s₁ with heap := h, toks := tk' }) → wpAny (model prog w) A (eval elt (compEnvC scope cl C env)) Q' E' { s₁ with heap := h, toks := tk })
    (eR : ∀ (i : Int) (u1 u2 : Tok) C oC m₂ h tk (Q' E' : Value → Shared → Prop), -1000000000000000000000 ≤ i → i ≤ 1000000000000000000000 → NsObj oC m₂ → m₂ x = some (.str (Str.ofString "real") u1) → m₂ x₂ = some (.int i u2) → Fr h₀ L h m → News h₀ L h ((C, oC) :: news) →
      (∀ u tk', Q' (.int i u) { s₁ with heap := h, toks := tk' }) → wpAny (model prog w) A (eval elt (compEnvC scope cl C env)) Q' E' { s₁ with heap := h, toks := tk })
    (done : ∀ D h tk u0 u1, Fr h₀ L h m → News h₀ L h ((D, lst [.int o1.mil u0, .int o2.mil u1]) :: news) → Q (.ref D) { s₁ with heap := h, toks := tk }) :
    TwoSrc prog w A h₀ L m env elt x x₂ scope cl Q (.ref t) s₁ := by
  have both : ∀ (o : Op) (u1 u2 : Tok) C oC m₂ h tk (Q' E' : Value → Shared → Prop), o.num = true → Tn o.mil → NsObj oC m₂ → m₂ x = some (.str o.kd u1) → m₂ x₂ = some (o.val u2) → Fr h₀ L h m → News h₀ L h ((C, oC) :: news) →
      (∀ u tk', Q' (.int o.mil u) { s₁ with heap := h, toks := tk' }) → wpAny (model prog w) A (eval elt (compEnvC scope cl C env)) Q' E' { s₁ with heap := h, toks := tk } := by
    intro o u1 u2 C oC m₂ h tk Q' E' hn hz h1 h2 h3 h4 h5 h6
    cases o with
    | int i => exact eI i u1 u2 C oC m₂ h tk Q' E' hz.1 hz.2 h1 h2 h3 h4 h5 h6
    | real r => exact eR r u1 u2 C oC m₂ h tk Q' E' hz.1 hz.2 h1 h2 h3 h4 h5 h6
    | bool _ => cases hn
  refine ⟨t, a, b, _, _, _, _, _, _, _, 0, 0, 0, news, fun j v => (j = 0 → ∃ u, v = .int o1.mil u) ∧ (j = 1 → ∃ u, v = .int o2.mil u), rfl, F, N, hm, rfl, rfl, ha, rfl, rfl, hb, rfl, rfl, ?_, ?_⟩
  · rintro j v1 v2 (⟨rfl, rfl, rfl⟩ | ⟨rfl, rfl, rfl⟩) C oC m₂ h tk Q' E' h1 h2 h3 h4 h5 h6
    · exact both o1 _ _ C oC m₂ h tk Q' E' hn1 hz1 h1 h2 h3 h4 h5 fun u tk' => h6 _ tk' ⟨fun _ => ⟨u, rfl⟩, fun q => absurd q (by decide)⟩
    · exact both o2 _ _ C oC m₂ h tk Q' E' hn2 hz2 h1 h2 h3 h4 h5 fun u tk' => h6 _ tk' ⟨fun q => absurd q (by decide), fun _ => ⟨u, rfl⟩⟩
  · rintro D h tk v0 v1 ⟨r0, -⟩ ⟨-, r1⟩ h1 h2
    obtain ⟨u0, rfl⟩ := r0 rfl
    obtain ⟨u1, rfl⟩ := r1 rfl
    exact done D h tk u0 u1 h1 h2
end
end
theorem eqB_num {o1 o2 : Op} (h1 : o1.num = true) (h2 : o2.num = true) : eqB o1 o2 = decide (o1.mil = o2.mil) := by
  cases o1 <;> cases o2 <;> first | (cases h1; done) | (cases h2; done) | (simp only [eqB, Op.ks, Op.kv, beq_self_eq_true, Bool.true_and]; rfl)
theorem nlt (a b : Int) : (!decide (b < a)) = decide (a ≤ b) := by rw [← decide_not]; exact decide_eq_decide.mpr Int.not_lt
theorem mulT {a b v : Int} {y : Res} (hv : v = dividedF a b) (h : realF v = y) : realF (dividedF a b) = y := hv ▸ h
theorem quT {o1 o2 : Op} {v : Int} {y : Res} (h0 : ¬ o2.mil = 0) (hv : v = dividedF (o1.mil * 1000000) o2.mil) (h : realF v = y) : quotF o1 o2 = y := by unfold quotF; rw [if_neg h0, ← hv]; exact h
theorem mul32 {i j : Int} (h1 : fitsI i) (h2 : fitsI j) : -4611686018427387904 ≤ i * j ∧ i * j ≤ 4611686018427387904 := by
  have e1 : i.natAbs ≤ 2147483648 := by obtain ⟨a, b⟩ := h1; omega
  have e2 : j.natAbs ≤ 2147483648 := by obtain ⟨a, b⟩ := h2; omega
  have e3 : (i * j).natAbs ≤ 2147483648 * 2147483648 := by rw [Int.natAbs_mul]; exact Nat.mul_le_mul e1 e2
  omega
theorem txt_ur : txt undefinedresult = Str.ofString "undefinedresult" := by unfold txt; rw [if_neg (by decide), if_pos rfl]
/-- what an operator on two numbers reckons -/
def pairF : Wd → Op → Op → Res
  | .add => addF
  | .sub => subF
  | .mul => mulF
  | .div => quotF
  | .eq => fun a b => .ok (.bool (eqB a b))
  | .ne => fun a b => .ok (.bool (!eqB a b))
  | .lt => fun a b => .ok (.bool (lessB a b))
  | .gt => fun a b => .ok (.bool (lessB b a))
  | .le => fun a b => .ok (.bool (!lessB b a))
  | .ge => fun a b => .ok (.bool (!lessB a b))
  | _ => fun _ _ => .bad typecheck
/-- a word that asks two numbers -/
def Wd.pr (c : Wd) : Prop := c ≠ .idiv ∧ c ≠ .mod ∧ c.un = false
theorem in_cmp {c : Wd} (h : ([Str.ofString "eq", Str.ofString "ne", Str.ofString "lt", Str.ofString "gt", Str.ofString "le", Str.ofString "ge"].any (· == c.str)) = true) : c = .eq ∨ c = .ne ∨ c = .lt ∨ c = .gt ∨ c = .le ∨ c = .ge := by cases c <;> first | exact absurd h (by decide) | simp
theorem in_ar {c : Wd} (hp : c.pr) (h : ([Str.ofString "eq", Str.ofString "ne", Str.ofString "lt", Str.ofString "gt", Str.ofString "le", Str.ofString "ge"].any (· == c.str)) = false) (h0 : (c.str == Str.ofString "div") = false) : c = .add ∨ c = .sub ∨ c = .mul := by
  obtain ⟨p1, p2, p3⟩ := hp
  cases c <;> first | exact absurd h (by decide) | exact absurd h0 (by decide) | exact absurd p3 (by decide) | exact absurd rfl p1 | exact absurd rfl p2 | simp
theorem is_sub' {c : Wd} (hp : c.pr) (h : ([Str.ofString "eq", Str.ofString "ne", Str.ofString "lt", Str.ofString "gt", Str.ofString "le", Str.ofString "ge"].any (· == c.str)) = false) (h0 : (c.str == Str.ofString "div") = false) (h1 : (c.str == Str.ofString "mul") = false) (h2 : (c.str == Str.ofString "add") = false) : c = .sub := by
  rcases in_ar hp h h0 with rfl | rfl | rfl
  · exact absurd h2 (by decide)
  · rfl
  · exact absurd h1 (by decide)
/-- the two operands at hand -/
def Pin (o1 o2 : Op) : Prop := OpOk o1 ∧ OpOk o2
theorem kdII {o1 o2 : Op} (hp : Pin o1 o2) (h1 : (o1.kd == Str.ofString "integer") = true) (h2 : (o2.kd == Str.ofString "integer") = true) : ∃ i j, o1 = .int i ∧ o2 = .int j ∧ fitsI i ∧ fitsI j := by
  cases o1 <;> first | exact absurd h1 (by simp only [Op.kd]; decide) | skip
  cases o2 <;> first | exact absurd h2 (by simp only [Op.kd]; decide) | exact ⟨_, _, rfl, rfl, hp.1, hp.2⟩
theorem addM {o1 o2 : Op} (h : ((o1.kd == Str.ofString "integer") && (o2.kd == Str.ofString "integer")) = false) : addF o1 o2 = realF (o1.mil + o2.mil) := by
  cases o1 <;> cases o2 <;> first | rfl | exact absurd h (by simp only [Op.kd]; decide)
theorem subM {o1 o2 : Op} (h : ((o1.kd == Str.ofString "integer") && (o2.kd == Str.ofString "integer")) = false) : subF o1 o2 = realF (o1.mil - o2.mil) := by
  cases o1 <;> cases o2 <;> first | rfl | exact absurd h (by simp only [Op.kd]; decide)
theorem mulM {o1 o2 : Op} (h : ((o1.kd == Str.ofString "integer") && (o2.kd == Str.ofString "integer")) = false) : mulF o1 o2 = realF (dividedF (o1.mil * o2.mil) 1000000) := by
  cases o1 <;> cases o2 <;> first | rfl | exact absurd h (by simp only [Op.kd]; decide)
theorem nI1 {o1 o2 : Op} (h : (o1.kd == Str.ofString "integer") = false) : ((o1.kd == Str.ofString "integer") && (o2.kd == Str.ofString "integer")) = false := by rw [h]; rfl
theorem nI2 {o1 o2 : Op} (h : (o2.kd == Str.ofString "integer") = false) : ((o1.kd == Str.ofString "integer") && (o2.kd == Str.ofString "integer")) = false := by rw [h, Bool.and_false]

def loneF : Wd → Op → Res
  | .neg => negF
  | .abs => absF
  | .ceiling => ceilF
  | .floor => floorF
  | .round => roundF
  | .truncate => truncF
  | _ => fun _ => .bad typecheck
theorem un_any (c : Wd) : ([Str.ofString "neg", Str.ofString "abs", Str.ofString "ceiling", Str.ofString "floor", Str.ofString "round", Str.ofString "truncate"].any (· == c.str)) = c.un := by cases c <;> decide
theorem un_enF {c : Wd} (h : c.un = true) : ([Str.ofString "eq", Str.ofString "ne"].any (· == c.str)) = false := by cases c <;> first | decide | exact absurd h (by decide)
theorem un_imF {c : Wd} (h : c.un = true) : ([Str.ofString "idiv", Str.ofString "mod"].any (· == c.str)) = false := by cases c <;> first | decide | exact absurd h (by decide)
theorem in_b {prog : Program} {w : World} {A : Around} {E : Value → Shared → Prop} {s : Shared} {t : Addr} {items : Array Value} {ys : List Str} {x : Str} {u : Tok} {b : Bool} {Q : Value → Shared → Prop} (ht : IsTup s.heap t items) (hi : StrsAre items.toList ys)
    (hb : (ys.any (· == x)) = b) (h : Q (.bool b) s) : wpAny (model prog w) A (compareOp .In (.str x u) (.ref t)) Q E s := in_tuple_strs ht hi (hb ▸ h)
theorem txt_su : txt stackunderflow = Str.ofString "stackunderflow" := by unfold txt; rw [if_neg (by decide), if_neg (by decide), if_neg (by decide)]
theorem txt_tc : txt typecheck = Str.ofString "typecheck" := by unfold txt; rw [if_neg (by decide), if_neg (by decide), if_pos rfl]
theorem item_last {prog : Program} {w : World} {A : Around} {E : Value → Shared → Prop} {s : Shared} {h₀ : Heap} {L : Addr} {news : Led} {value slice : Expr} {l : Addr} {xs : Array Value} {n : Nat} {k : Int} {u : Tok} {v : Value} {Q : Value → Shared → Prop}
    (N : News h₀ L s.heap news) (hm : (l, listOf xs n) ∈ news) (h0 : k < 0) (h1 : -(xs.size : Int) ≤ k) (hfit : -(2 ^ 63) ≤ k) (hx : xs[(k + xs.size).toNat]? = some v) (h : Q v s)
    (hs : subscripted slice false (.ref l) (.int k u) = operate [.ref l, .int k u] (getItem (.ref l) (.int k u)) := by with_unfolding_all rfl) :
    wpAny (model prog w) A (subscriptTail value slice (.ref l) (.int k u)) Q E s := by
  have hl : s.heap.IsList l xs := ⟨_, (N _ hm).1, rfl, _, rfl⟩
  exact tail_any hl.typeIs slot_list_getitem.lookup (wpAny_getItem_list_neg hl h0 h1 hfit hx h) hs
theorem it1 {prog : Program} {w : World} {A : Around} {E : Value → Shared → Prop} {s : Shared} {h₀ : Heap} {L : Addr} {news : Led} {value slice : Expr} {l : Addr} {a : Value} {n : Nat} {u : Tok} {Q : Value → Shared → Prop}
    (N : News h₀ L s.heap news) (hm : (l, listOf #[a] n) ∈ news) (h : Q a s)
    (hs : subscripted slice false (.ref l) (.int (-1) u) = operate [.ref l, .int (-1) u] (getItem (.ref l) (.int (-1) u)) := by with_unfolding_all rfl) :
    wpAny (model prog w) A (subscriptTail value slice (.ref l) (.int (-1) u)) Q E s :=
  item_last N hm (by decide) (show -(1 : Int) ≤ -1 from by decide) (by decide) rfl h hs
theorem it2 {prog : Program} {w : World} {A : Around} {E : Value → Shared → Prop} {s : Shared} {h₀ : Heap} {L : Addr} {news : Led} {value slice : Expr} {l : Addr} {a b : Value} {n : Nat} {u : Tok} {Q : Value → Shared → Prop}
    (N : News h₀ L s.heap news) (hm : (l, listOf #[a, b] n) ∈ news) (h : Q b s)
    (hs : subscripted slice false (.ref l) (.int (-1) u) = operate [.ref l, .int (-1) u] (getItem (.ref l) (.int (-1) u)) := by with_unfolding_all rfl) :
    wpAny (model prog w) A (subscriptTail value slice (.ref l) (.int (-1) u)) Q E s :=
  item_last N hm (by decide) (show -(2 : Int) ≤ -1 from by decide) (by decide) rfl h hs
theorem it3 {prog : Program} {w : World} {A : Around} {E : Value → Shared → Prop} {s : Shared} {h₀ : Heap} {L : Addr} {news : Led} {value slice : Expr} {l : Addr} {a b : Value} {n : Nat} {u : Tok} {Q : Value → Shared → Prop}
    (N : News h₀ L s.heap news) (hm : (l, listOf #[a, b] n) ∈ news) (h : Q a s)
    (hs : subscripted slice false (.ref l) (.int (-2) u) = operate [.ref l, .int (-2) u] (getItem (.ref l) (.int (-2) u)) := by with_unfolding_all rfl) :
    wpAny (model prog w) A (subscriptTail value slice (.ref l) (.int (-2) u)) Q E s :=
  item_last N hm (by decide) (show -(2 : Int) ≤ -2 from by decide) (by decide) rfl h hs
theorem boolIn1 {o : Op} (h : ([o.kd].any (· == Str.ofString "boolean")) = true) : o.num = false := by cases o <;> first | rfl | exact absurd h (by simp only [Op.kd]; decide)
theorem boolIn1' {o : Op} (h : ([o.kd].any (· == Str.ofString "boolean")) = false) : o.num = true := by cases o <;> first | rfl | exact absurd h (by simp only [Op.kd]; decide)

def Op.dat : Op → PyData
  | .int i => .int i
  | .real r => .int r
  | .bool b => .bool b
theorem kd_ok (o : Op) : PyData.strOk o.kd = true := by cases o <;> (simp only [Op.kd]; decide +kernel)
theorem val_reads {h₀ : Heap} {news : Led} (o : Op) (t : Tok) : ReadsVia h₀ news (o.val t) o.dat := by
  cases o
  · exact .int _ _
  · exact .int _ _
  · exact .bool _
theorem dat_ok (o : Op) : (PyData.tuple [.str o.kd, o.dat]).canLay0 = true := by
  cases o <;> simp only [PyData.canLay0, PyData.canLayAll0, Op.dat, kd_ok, Bool.and_true]
theorem dat_dp (o : Op) : (PyData.tuple [.str o.kd, o.dat]).depth ≤ 8 := by cases o <;> simp [PyData.depth, PyData.depthAll, Op.dat]
theorem tup_reads {h₀ : Heap} {news : Led} {D : Addr} {o : Op} {t1 t2 : Tok} (hm : (D, tupO o t1 t2) ∈ news) : ReadsVia h₀ news (.ref D) (.tuple [.str o.kd, o.dat]) :=
  .tuple (vs := [_, _]) hm (.cons (.str _ _) (.cons (val_reads o t2) .nil))
section
variable {prog : Program} {w : World} {A : Around} {E : Value → Shared → Prop} {s : Shared} {h₀ : Heap} {L : Addr} {m : Str → Option Value} {news : Led} {D1 D2 : Addr} {o1 o2 : Op} {t1 t2 t3 t4 : Tok} {Q : Value → Shared → Prop}
theorem eq_ops (F : Fr h₀ L s.heap m) (N : News h₀ L s.heap news) (h1 : (D1, tupO o1 t1 t2) ∈ news) (h2 : (D2, tupO o2 t3 t4) ∈ news) (hu : A.units + 8 < cLine)
    (h : Q (.bool (PyData.eqv (.tuple [.str o1.kd, o1.dat]) (.tuple [.str o2.kd, o2.dat]))) s) : wpAny (model prog w) A (compareOp .Eq (.ref D1) (.ref D2)) Q E s :=
  eq_via (tup_reads h1) (tup_reads h2) F N (dat_ok o1) (dat_ok o2) (dat_dp o1) hu h
theorem eq_kinds {x1 x2 y1 y2 : Str} {n1 n2 : Nat} (F : Fr h₀ L s.heap m) (N : News h₀ L s.heap news) (h1 : (D1, listOf #[.str x1 t1, .str x2 t2] n1) ∈ news) (h2 : (D2, listOf #[.str y1 t3, .str y2 t4] n2) ∈ news)
    (k1 : PyData.strOk x1 = true) (k2 : PyData.strOk x2 = true) (k3 : PyData.strOk y1 = true) (k4 : PyData.strOk y2 = true) (hu : A.units + 8 < cLine)
    (h : Q (.bool (x1 == y1 && x2 == y2)) s) : wpAny (model prog w) A (compareOp .Eq (.ref D1) (.ref D2)) Q E s :=
  eq_via (ReadsVia.lst (vs := [_, _]) h1 (.cons (.str _ _) (.cons (.str _ _) .nil))) (ReadsVia.lst (vs := [_, _]) h2 (.cons (.str _ _) (.cons (.str _ _) .nil))) F N
    (by simp only [PyData.canLay0, PyData.canLayAll0, k1, k2, Bool.and_true]) (by simp only [PyData.canLay0, PyData.canLayAll0, k3, k4, Bool.and_true]) (by simp [PyData.depth, PyData.depthAll]) hu
    (by simp only [PyData.eqv, PyData.eqvAll, Bool.and_true]; exact h)
theorem item_int {value slice : Expr} {u : Tok} (N : News h₀ L s.heap news) (hm : (D1, tupO o1 t1 t2) ∈ news) (ho : o1.isI = true) (hk : OpOk o1) (h : ∀ i, o1 = .int i → -2147483648 ≤ i → i ≤ 2147483647 → Q (.int i t2) s)
    (hs : subscripted slice false (.ref D1) (.int 1 u) = operate [.ref D1, .int 1 u] (getItem (.ref D1) (.int 1 u)) := by with_unfolding_all rfl) :
    wpAny (model prog w) A (subscriptTail value slice (.ref D1) (.int 1 u)) Q E s := by
  cases o1 with
  | int i => exact item_tupleT (l := [.str (Op.kd (.int i)) t1, .int i t2]) (k := 1) (j := 1) ⟨_, (N _ hm).1, rfl, _, rfl⟩ (by decide) (by decide) (show seqIndex? 1 2 = some 1 from by decide) rfl (h i rfl hk.1 hk.2) hs
  | real _ => cases ho
  | bool _ => cases ho
end
theorem twoB {o1 o2 : Op} (h : ([o1.kd, o2.kd].any (· == Str.ofString "boolean")) = false) : o1.num = true ∧ o2.num = true := by
  cases o1 <;> cases o2 <;> first | exact ⟨rfl, rfl⟩ | exact absurd h (by simp only [Op.kd]; decide)
theorem twoB' {o1 o2 : Op} (h : ([o1.kd, o2.kd].any (· == Str.ofString "boolean")) = true) : (o1.num && o2.num) = false := by
  cases o1 <;> cases o2 <;> first | rfl | exact absurd h (by simp only [Op.kd]; decide)
theorem twoI {o1 o2 : Op} (h : ([o1.kd, o2.kd].any (· == Str.ofString "boolean")) = false) (hr : ([o1.kd, o2.kd].any (· == Str.ofString "real")) = false) : o1.isI = true ∧ o2.isI = true := by
  cases o1 <;> cases o2 <;> first | exact ⟨rfl, rfl⟩ | exact absurd h (by simp only [Op.kd]; decide) | exact absurd hr (by simp only [Op.kd]; decide)
theorem twoR {o1 o2 : Op} (hr : ([o1.kd, o2.kd].any (· == Str.ofString "real")) = true) : (o1.isI && o2.isI) = false := by
  cases o1 <;> cases o2 <;> first | rfl | exact absurd hr (by simp only [Op.kd]; decide)
theorem in_en {c : Wd} (h : ([Str.ofString "eq", Str.ofString "ne"].any (· == c.str)) = true) : c = .eq ∨ c = .ne := by cases c <;> first | exact absurd h (by decide) | simp
theorem en_imF {c : Wd} (h : ([Str.ofString "eq", Str.ofString "ne"].any (· == c.str)) = true) : ([Str.ofString "idiv", Str.ofString "mod"].any (· == c.str)) = false := by cases c <;> first | decide | exact absurd h (by decide)
/-- eq and ne where an operand is a truth -/
theorem enE1 {c : Wd} {o1 o2 : Op} (h : ([Str.ofString "eq", Str.ofString "ne"].any (· == c.str)) = true) (hb : ([o1.kd, o2.kd].any (· == Str.ofString "boolean")) = true) (hk : (o1.kd == Str.ofString "boolean" && o2.kd == Str.ofString "boolean") = false) :
    machF2 c o1 o2 = .ok (.bool (false == (c.str == Str.ofString "eq"))) := by
  rcases in_en h with rfl | rfl <;> cases o1 <;> cases o2 <;> first | rfl | exact absurd hb (by simp only [Op.kd]; decide) | exact absurd hk (by simp only [Op.kd]; decide)
theorem enE3 {c : Wd} {o1 o2 : Op} (h : ([Str.ofString "eq", Str.ofString "ne"].any (· == c.str)) = true) (hb : ([o1.kd, o2.kd].any (· == Str.ofString "boolean")) = true) (hk : (o1.kd == Str.ofString "boolean" && o2.kd == Str.ofString "boolean") = false) :
    machF2 c o1 o2 = .ok (.bool ((o1.kd == Str.ofString "boolean" && o2.kd == Str.ofString "boolean") == (c.str == Str.ofString "eq"))) := by
  rw [enE1 h hb hk, hk]
theorem enE2 {c : Wd} {o1 o2 : Op} (h : ([Str.ofString "eq", Str.ofString "ne"].any (· == c.str)) = true) (hk : (o1.kd == Str.ofString "boolean" && o2.kd == Str.ofString "boolean") = true) :
    machF2 c o1 o2 = .ok (.bool (PyData.eqv (.tuple [.str o2.kd, o2.dat]) (.tuple [.str o1.kd, o1.dat]) == (c.str == Str.ofString "eq"))) := by
  rcases in_en h with rfl | rfl <;> cases o1 <;> cases o2 <;> first | exact absurd hk (by simp only [Op.kd]; decide) | (rename_i a b; cases a <;> cases b <;> (simp only [PyData.eqv, PyData.eqvAll, Op.dat, Op.kd, machF2]; exact congrArg (fun z => Res.ok (Op.bool z)) (by decide)))
theorem enT {c : Wd} {o1 o2 : Op} (h : ([Str.ofString "eq", Str.ofString "ne"].any (· == c.str)) = false) (hc : c.un = false) (hb : ([o1.kd, o2.kd].any (· == Str.ofString "boolean")) = true) : machF2 c o1 o2 = .bad typecheck := by
  have hn := twoB' hb
  cases c <;> first | exact absurd h (by decide) | exact absurd hc (by decide) | exact n2ty hn | (cases o1 <;> cases o2 <;> first | rfl | exact absurd hb (by simp only [Op.kd]; decide))
theorem imT {c : Wd} {o1 o2 : Op} (h : ([Str.ofString "idiv", Str.ofString "mod"].any (· == c.str)) = true) (hr : ([o1.kd, o2.kd].any (· == Str.ofString "real")) = true) : machF2 c o1 o2 = .bad typecheck := by
  cases c <;> first | exact absurd h (by decide) | exact i2ty (twoR hr)
theorem prOf {c : Wd} (hc : c.un = false) (h : ([Str.ofString "idiv", Str.ofString "mod"].any (· == c.str)) = false) : c.pr := by
  refine ⟨fun q => ?_, fun q => ?_, hc⟩ <;> (subst q; exact absurd h (by decide))
theorem pairM {c : Wd} {o1 o2 : Op} {r : Res} (hc : c.un = false) (h : ([Str.ofString "idiv", Str.ofString "mod"].any (· == c.str)) = false) (hb : ([o1.kd, o2.kd].any (· == Str.ofString "boolean")) = false) (hr : pairF c o1 o2 = r) : machF2 c o1 o2 = r := by
  obtain ⟨h1, h2⟩ := twoB hb
  cases c <;> first | exact absurd h (by decide) | exact absurd hc (by decide) | exact n2ok h1 h2 hr | exact hr
theorem notin_b {prog : Program} {w : World} {A : Around} {E : Value → Shared → Prop} {s : Shared} {t : Addr} {items : Array Value} {ys : List Str} {x : Str} {u : Tok} {b : Bool} {Q : Value → Shared → Prop} (ht : IsTup s.heap t items) (hi : StrsAre items.toList ys)
    (hb : (ys.any (· == x)) = b) (h : Q (.bool (!b)) s) : wpAny (model prog w) A (compareOp .NotIn (.str x u) (.ref t)) Q E s := notin_tuple_strs ht hi (hb ▸ h)
theorem qB2 (i j : Int) (h1 : -2147483648 ≤ i) (h2 : i ≤ 2147483647) : 0 ≤ (absI i).fdiv (absI j) ∧ (absI i).fdiv (absI j) ≤ 2147483648 := by
  have a1 := absNn i
  have a2 := absNn j
  have a3 : absI i ≤ 2147483648 := by unfold absI; split <;> omega
  rw [Int.fdiv_eq_ediv_of_nonneg _ a2]
  exact ⟨Int.ediv_nonneg a1 a2, Int.le_trans (Int.ediv_le_self _ a1) a3⟩
theorem imZ {c : Wd} {o1 o2 : Op} {i j : Int} (h : ([Str.ofString "idiv", Str.ofString "mod"].any (· == c.str)) = true) (e1 : o1 = .int i) (e2 : o2 = .int j) (hz : j = 0) : machF2 c o1 o2 = .bad undefinedresult := by
  subst e1 e2
  cases c <;> first | exact absurd h (by decide) | exact iZ hz | exact mZ hz
theorem is_modW {c : Wd} (h : (c.str == Str.ofString "mod") = true) : c = .mod := by cases c <;> first | rfl | exact absurd h (by decide)
theorem is_idivW {c : Wd} (h : ([Str.ofString "idiv", Str.ofString "mod"].any (· == c.str)) = true) (hm : (c.str == Str.ofString "mod") = false) : c = .idiv := by cases c <;> first | rfl | exact absurd h (by decide) | exact absurd hm (by decide)
theorem moE1 {c : Wd} {o1 o2 : Op} {i j : Int} (hm : (c.str == Str.ofString "mod") = true) (e1 : o1 = .int i) (e2 : o2 = .int j) (hz : ¬ j = 0) (hn : i < 0) : machF2 c o1 o2 = .ok (.int (-((absI i).fmod (absI j)))) := by
  subst e1 e2; rw [is_modW hm]; exact mN hz hn
theorem moE2 {c : Wd} {o1 o2 : Op} {i j : Int} (hm : (c.str == Str.ofString "mod") = true) (e1 : o1 = .int i) (e2 : o2 = .int j) (hz : ¬ j = 0) (hn : ¬ i < 0) : machF2 c o1 o2 = .ok (.int ((absI i).fmod (absI j))) := by
  subst e1 e2; rw [is_modW hm]; exact mP hz hn
theorem idE {c : Wd} {o1 o2 : Op} {i j f : Int} (h : ([Str.ofString "idiv", Str.ofString "mod"].any (· == c.str)) = true) (hm : (c.str == Str.ofString "mod") = false) (e1 : o1 = .int i) (e2 : o2 = .int j) (hz : ¬ j = 0) (b1 : -2147483648 ≤ i) (b2 : i ≤ 2147483647)
    (hs : ((decide (i < 0) == decide (j < 0)) = true ∧ f = (absI i).fdiv (absI j)) ∨ ((decide (i < 0) == decide (j < 0)) = false ∧ f = -((absI i).fdiv (absI j)))) : machF2 c o1 o2 = if f < 2147483648 then .ok (.int f) else .bad undefinedresult := by
  subst e1 e2
  rw [is_idivW h hm]
  have q := qB2 i j b1 b2
  have hf : f = if (i < 0 ↔ j < 0) then (absI i).fdiv (absI j) else -((absI i).fdiv (absI j)) := by
    rcases hs with ⟨a, b⟩ | ⟨a, b⟩
    · exact b.trans (iS a)
    · exact b.trans (iD a)
  have hb : -2147483648 ≤ f ∧ f ≤ 2147483648 := by rcases hs with ⟨_, b⟩ | ⟨_, b⟩ <;> (subst b; omega)
  by_cases hl : f < 2147483648
  · rw [if_pos hl]; exact iOk hz hf ⟨hb.1, by omega⟩
  · rw [if_neg hl]; exact iBad hz hf (fun q => by have := q.2; omega)
theorem idO {c : Wd} {o1 o2 : Op} {i j f : Int} (h : ([Str.ofString "idiv", Str.ofString "mod"].any (· == c.str)) = true) (hm : (c.str == Str.ofString "mod") = false) (e1 : o1 = .int i) (e2 : o2 = .int j) (hz : ¬ j = 0) (b1 : -2147483648 ≤ i) (b2 : i ≤ 2147483647) (hl : f < 2147483648)
    (hs : ((decide (i < 0) == decide (j < 0)) = true ∧ f = (absI i).fdiv (absI j)) ∨ ((decide (i < 0) == decide (j < 0)) = false ∧ f = -((absI i).fdiv (absI j)))) : machF2 c o1 o2 = .ok (.int f) := by rw [idE h hm e1 e2 hz b1 b2 hs, if_pos hl]
theorem idB {c : Wd} {o1 o2 : Op} {i j f : Int} (h : ([Str.ofString "idiv", Str.ofString "mod"].any (· == c.str)) = true) (hm : (c.str == Str.ofString "mod") = false) (e1 : o1 = .int i) (e2 : o2 = .int j) (hz : ¬ j = 0) (b1 : -2147483648 ≤ i) (b2 : i ≤ 2147483647) (hl : ¬ f < 2147483648)
    (hs : ((decide (i < 0) == decide (j < 0)) = true ∧ f = (absI i).fdiv (absI j)) ∨ ((decide (i < 0) == decide (j < 0)) = false ∧ f = -((absI i).fdiv (absI j)))) : machF2 c o1 o2 = .bad undefinedresult := by rw [idE h hm e1 e2 hz b1 b2 hs, if_neg hl]

section
variable {prog : Program} {w : World} {A : Around} {E : Value → Shared → Prop} {s : Shared} {h₀ : Heap} {L : Addr} {news : Led} {SL : Addr} {vs : List Value} {ns : List Int} {k : Nat} {Q : Value → Shared → Prop}
theorem len_sl (N : News h₀ L s.heap news) (hm : (SL, listOf vs.toArray k) ∈ news) (hlen : vs.length ≤ 60) (h : Q (.int vs.length (s.toks + 1)) { s with toks := s.toks + 1 + 1 }) : wpAny (model prog w) A (call (.builtin "len") [.ref SL]) Q E s :=
  len_list (items := vs.toArray) ⟨_, (N _ hm).1, rfl, _, rfl⟩ (by rw [List.size_toArray]; omega) (by rw [List.size_toArray]; exact h)
theorem item_sl {value slice : Expr} {j : Int} {u : Tok} (N : News h₀ L s.heap news) (hm : (SL, listOf vs.toArray k) ∈ news) (hi : IntsAre vs ns) (hlen : vs.length ≤ 60) (h0 : 0 ≤ j) (hj : j < vs.length) (h : ∀ x t, Q (.int x t) s)
    (hs : subscripted slice false (.ref SL) (.int j u) = operate [.ref SL, .int j u] (getItem (.ref SL) (.int j u)) := by with_unfolding_all rfl) :
    wpAny (model prog w) A (subscriptTail value slice (.ref SL) (.int j u)) Q E s := by
  have hl : s.heap.IsList SL vs.toArray := ⟨_, (N _ hm).1, rfl, _, rfl⟩
  have hn : j.toNat < vs.length := by omega
  obtain ⟨x, t, e, -⟩ := hi.at j.toNat vs[j.toNat] (List.getElem?_eq_getElem hn)
  exact tail_any hl.typeIs slot_list_getitem.lookup (wpAny_getItem_list hl h0 (by omega) (x := .int x t) (by rw [List.getElem?_toArray, List.getElem?_eq_getElem hn, e]) (h x t)) hs
end

theorem swp {h₀ h : Heap} {L : Addr} {x y : Addr × Obj} {news : Led} (N : News h₀ L h (x :: y :: news)) : News h₀ L h (y :: x :: news) := fun q hq => N q (by
  rcases List.mem_cons.mp hq with rfl | hq
  · exact .tail _ (.head _)
  · rcases List.mem_cons.mp hq with rfl | hq
    · exact .head _
    · exact .tail _ (.tail _ hq))
/-- a list of ints of which each keeps P -/
def AllI (P : Int → Prop) : List Value → Prop
  | [] => True
  | v :: r => (∃ x t, v = .int x t ∧ P x) ∧ AllI P r
theorem AllI.at {P : Int → Prop} : ∀ {l : List Value}, AllI P l → ∀ {i : Nat}, i < l.length → ∃ x t, l[i]? = some (.int x t) ∧ P x
  | [], _, _, h => absurd h (Nat.not_lt_zero _)
  | _ :: _, ⟨⟨x, t, e, p⟩, _⟩, 0, _ => ⟨x, t, by rw [e]; rfl, p⟩
  | _ :: _, ⟨_, r⟩, i + 1, h => by
    obtain ⟨x, t, e, p⟩ := AllI.at r (Nat.lt_of_succ_lt_succ h)
    exact ⟨x, t, by rw [List.getElem?_cons_succ]; exact e, p⟩
theorem item_any {prog : Program} {w : World} {A : Around} {E : Value → Shared → Prop} {s : Shared} {P : Int → Prop} {l : List Value} {value slice : Expr} {t : Addr} {j : Int} {u : Tok} {Q : Value → Shared → Prop} (ht : IsTup s.heap t l.toArray) (ha : AllI P l) (h0 : 0 ≤ j) (hj : j < l.length) (hb : l.length < 1000) (h : ∀ x u', P x → Q (.int x u') s)
    (hs : subscripted slice false (.ref t) (.int j u) = operate [.ref t, .int j u] (getItem (.ref t) (.int j u)) := by with_unfolding_all rfl) :
    wpAny (model prog w) A (subscriptTail value slice (.ref t) (.int j u)) Q E s := by
  obtain ⟨x, u', e, p⟩ := ha.at (i := j.toNat) (by omega)
  refine item_tupleT ht (by omega) (by omega) (j := j.toNat) ?_ e (h x u' p) hs
  have hn : ¬ j < 0 := by omega
  simp only [seqIndex?, if_neg hn]
  rw [if_pos (by simp only [Bool.and_eq_true, decide_eq_true_eq]; exact ⟨h0, hj⟩)]
abbrev lawInts : List Value := [.int (0) 1265, .int (1) 1266, .int (-1) 1268, .int (2) 1269, .int (7) 1270, .int (-7) 1272, .int (2147483647) 1273, .int (-2147483648) 1275, .int (65536) 1276, .int (46341) 1277, .int (-3) 1279, .int (10) 1280]
theorem lawInts_ok : AllI fitsI lawInts := ⟨⟨_, _, rfl, by constructor <;> decide⟩, ⟨_, _, rfl, by constructor <;> decide⟩, ⟨_, _, rfl, by constructor <;> decide⟩, ⟨_, _, rfl, by constructor <;> decide⟩, ⟨_, _, rfl, by constructor <;> decide⟩, ⟨_, _, rfl, by constructor <;> decide⟩, ⟨_, _, rfl, by constructor <;> decide⟩, ⟨_, _, rfl, by constructor <;> decide⟩, ⟨_, _, rfl, by constructor <;> decide⟩, ⟨_, _, rfl, by constructor <;> decide⟩, ⟨_, _, rfl, by constructor <;> decide⟩, ⟨_, _, rfl, by constructor <;> decide⟩, trivial⟩
theorem pw_10_12 {prog : Program} {w : World} {A : Around} {E : Value → Shared → Prop} {s : Shared} {t u : Tok} {Q : Value → Shared → Prop} (h : Q (.int 1000000000000 s.toks) { s with toks := s.toks + 1 }) : wpAny (model prog w) A (binaryOp .Pow (.int 10 t) (.int 12 u)) Q E s :=
  pow_int_small (by decide) (by decide) (by decide) (by rw [show (10 : Int) ^ Int.toNat 12 = 1000000000000 from by decide +kernel]; exact h)
theorem pw_2_39 {prog : Program} {w : World} {A : Around} {E : Value → Shared → Prop} {s : Shared} {t u : Tok} {Q : Value → Shared → Prop} (h : Q (.int 549755813888 s.toks) { s with toks := s.toks + 1 }) : wpAny (model prog w) A (binaryOp .Pow (.int 2 t) (.int 39 u)) Q E s :=
  pow_int_small (by decide) (by decide) (by decide) (by rw [show (2 : Int) ^ Int.toNat 39 = 549755813888 from by decide +kernel]; exact h)

section
open PySem PySem.W PyProof.Rows PySem.Spec PySem.Calls PyProof.Rows.LCg
section
variable {prog : Program} {w : World} {A : Around} {E : Value → Shared → Prop} {s : Shared} {b : Array UInt8} {t : Tok}

theorem unch_entry : entryFor table "proto.unchain" = some Builtin.«proto.unchain» := entryFor_of_tree (by kernel_rfl)
theorem unchain_none {e v : Value} {a : Addr} {oe : Obj} {vs : Array Value} {Q : Value → Shared → Prop} (he : s.heap.get? a = some oe) (hd : oe.data = .fields vs) (h2 : vs[2]? = some .none) (hQ : Q .none s) :
    wpAny (model prog w) A (runValue (.builtin "proto.unchain" ⟨[e, .ref a, v, .bool false], []⟩)) Q E s := by
  refine wpAny_runValue (codeAny_builtin unch_entry ?_)
  show wpAny _ _ (field (.ref a) 2 >>= _) _ _ s
  refine wpAny_bind (wpAny_field he hd h2 ?_)
  show wpAny _ _ (if (Value.none == Value.none) = true then _ else _) _ _ s
  rw [if_pos (show (Value.none == Value.none) = true from rfl)]
  show wpAny _ _ (ret .none) _ _ s
  exact wpAny_pure hQ

theorem next_end' {it e : Addr} {oe : Obj} {vs : Array Value} {i : Nat} {Q : Option Value → Shared → Prop} (hh : A.handled = some (.ref e)) (he : s.heap.get? e = some oe) (hd : oe.data = .fields vs) (h2 : vs[2]? = some .none) (hne : e ≠ it)
    (hit : KBw.IsBytesIter s.heap it b t i) (hx : b[i]? = none) (hQ : ∀ h', Heap.ExtBut it s.heap h' → Q none { s with heap := h' }) : wpAny (model prog w) A (pyNext (.ref it)) Q E s := by
  obtain ⟨o, ho, hc, hdi⟩ := id hit
  unfold pyNext
  refine wpAny_bind (wpAny_attempt (wpAny_callSpecial?_slot (name := PySem.Str.ofString "__next__") (KBw.iter_typeIs hit) KBw.slot_next
    (wpAny_call_entry KBw.slot_next (KBw.iter_typeIs hit) KBw.entry_next ?_ (KBw.args_next _))))
  show wpAny _ _ (field (.ref it) 0 >>= _) _ _ s
  refine wpAny_bind (wpAny_field ho hdi (x := .bytes b t) rfl ?_)
  show wpAny _ _ (if (Value.bytes b t == Value.none) = true then _ else _) _ _ s
  rw [if_neg (show ¬ ((Value.bytes b t == Value.none) = true) from Bool.false_ne_true)]
  show wpAny _ _ (field (.ref it) 1 >>= _) _ _ s
  refine wpAny_bind (wpAny_field ho hdi (x := .int i 0) rfl ?_)
  refine wpAny_bind (wpAny_of_eq (a := b) rfl ?_)
  simp only [Int.toNat_natCast, hx]
  refine wpAny_bind (wpAny_rule (wpAny_bind (wpAny_setField ho hdi (by simp) ?_)))
  show wpAny _ _ (newExc (.type "StopIteration") [] >>= _) _ _ _
  refine wpAny_bind ?_
  simp only [newExc, newTuple]
  refine wpAny_bind (wpAny_newObj_type ?_ (by size_fits))
  refine wpAny_bind (m := firstArgMember _ _) (wpAny_of_eq (a := Value.none) (by first | rfl | (simp only [firstArgMember]; rfl)) ?_)
  refine wpAny_newObj_type ?_ (by size_fits)
  simp only [raiseNew]
  refine wpAny_bind (wpAny_handled ?_)
  rw [show A.in1.handled = some (.ref e) from hh]
  dsimp only
  generalize hH1 : s.heap.update it (Obj.mapFields (·.setIfInBounds 0 Value.none)) = H1
  generalize hH2 : H1.push { cls := Value.type "tuple", data := Data.seq (#[] : Array Value) } = H2
  generalize hX : ({ cls := Value.type "StopIteration", data := Data.fields (#[Value.ref H1.objs.size, Value.none, Value.none, Value.none, Value.bool false, Value.none] ++ ownMembersOf (Value.type "StopIteration") []) } : Obj) = X
  have old : ∀ c o', c ≠ it → s.heap.get? c = some o' → H2.get? c = some o' := fun c o' hc' e' => by
    rw [← hH2, ← hH1]
    exact Heap.get?_push_of_some _ (by rw [Heap.get?_update_other _ _ (Ne.symm hc')]; exact e')
  have he2 : H2.get? e = some oe := old _ _ hne he
  have hne2 : e ≠ H2.objs.size := Nat.ne_of_lt (Heap.lt_size he2)
  have hXg : (H2.push X).get? H2.objs.size = some X := Heap.get?_push_size _ (by rw [← hX]; rfl)
  rw [if_pos (show (Value.ref e != Value.ref H2.objs.size) = true by simp [hne2])]
  refine wpAny_bind (wpAny_holding (unchain_none (Heap.get?_push_of_some _ he2) hd h2 ?_))
  unfold updateField
  refine wpAny_bind (wpAny_bind (wpAny_load hXg ?_))
  have hXd : X.data = .fields (#[Value.ref H1.objs.size, Value.none, Value.none, Value.none, Value.bool false, Value.none] ++ ownMembersOf (Value.type "StopIteration") []) := by rw [← hX]
  rw [hXd]
  dsimp only
  rw [if_pos (by simp only [Array.size_append]; exact Nat.lt_of_lt_of_le (show 2 < 6 by decide) (Nat.le_add_right _ _))]
  refine wpAny_update hXg (wpAny_throw ?_)
  have hXg2 := Heap.get?_update_self (Obj.mapFields (·.setIfInBounds 2 (Value.ref e))) hXg (Obj.isFreed_of_fields (Obj.data_mapFields hXd _))
  refine wpAny_bind (wpAny_isInstance (T := "StopIteration") (b := true) ⟨_, hXg2, ?_⟩ isSubtype_stop ?_)
  · rw [Obj.cls_mapFields, ← hX]
  exact wpAny_pure (hQ _ fun c o' hc' e' => by
    have e2 := old c o' hc' e'
    rw [Heap.get?_update_other _ _ (Ne.symm (Nat.ne_of_lt (Heap.lt_size e2)))]
    exact Heap.get?_push_of_some _ e2)

theorem walksB {e : Addr} {oe : Obj} {vs : Array Value} (hh : A.handled = some (.ref e)) (hd : oe.data = .fields vs) (h2 : vs[2]? = some .none) (I : Addr) (hne : e ≠ I) (b : Array UInt8) (t : Tok) :
    Walks prog w A I [I, e] [I] b.size (fun i v => ∃ c u, b[i]? = some c ∧ v = .int (c.toNat : Int) u) (fun i h => KBw.IsBytesIter h I b t i ∧ h.get? e = some oe) where
  sub := fun b hb => by simp at hb; simp [hb]
  frame := fun _ _ _ st hk => ⟨let ⟨o, ho, r⟩ := st.1; ⟨o, hk I (by simp) o ho, r⟩, hk e (by simp) _ st.2⟩
  item := fun i s Q E hi st hQ => by
    refine KBw.next_item st.1 (c := b[i]) (by simp [hi]) fun h' hit' hs' => ?_
    exact hQ _ h' (s.toks + 1) ⟨_, _, by simp [hi], rfl⟩ ⟨hit', hs'.extBut e _ hne st.2⟩ fun b o hb e => hs'.extBut b o (fun h => hb (by simp [h])) e
  done := fun s Q E st hQ => next_end' hh st.2 hd h2 hne st.1 (by simp) fun h' he' => hQ h' s.toks fun b o hb e => he' b o (fun h => hb (by simp [h])) e
  self := fun _ _ _ _ st hQ => KBw.pyIter_self st.1 hQ

/-- what the list comprehension over bytes asks, in a suite that handles the error e -/
def BSrc (prog : Program) (w : World) (A : Around) (h₀ : Heap) (L : Addr) (m : Str → Option Value) (env : Env) (elt : Expr) (x : Str) (scope : Scope) (cl : List (Str × Addr)) (Q : Value → Shared → Prop) (xv : Value) (s₁ : Shared) : Prop :=
  ∃ (b : Array UInt8) (t : Tok) (e : Addr) (oe : Obj) (vs : Array Value) (news : List (Addr × Obj)), xv = .bytes b t ∧ A.handled = some (.ref e) ∧ Fr h₀ L s₁.heap m ∧ News h₀ L s₁.heap news ∧ (e, oe) ∈ news ∧ oe.data = .fields vs ∧ vs[2]? = some .none ∧ b.size ≤ sizeLine ∧
    ∀ s₂ : Shared, (∃ h, s₂ = { s₁ with heap := h }) → CompRest prog w A h₀ L m env elt x scope cl s₂ (fun nw => (e, oe) ∈ nw) (fun i v => ∃ c u, b[i]? = some c ∧ v = .int (c.toNat : Int) u) (FinE h₀ L m s₂ Q) b.size 0 [] news

theorem ListComp_B {h₀ : Heap} {L : Addr} {m : Str → Option Value} {env : Env} {elt iter : Expr} {x : Str} {px : Pos} {scope : Scope} {cl : List (Str × Addr)} {pos : Pos} {Q : Value → Shared → Prop}
    (_F₀ : Fr h₀ L s.heap m) (hclos : closureFor scope env = pure cl) (hcell : ∀ y ∈ scope.names, y.2 ≠ .cell) (hkind : scope.kind = .function)
    (hnames : ∀ y ∈ scope.names, y.2 = .local → scope.names.lookup y.1 = some .local) (hx : scope.names.lookup x = some .local)
    (h : wpAny (model prog w) A (eval iter env) (BSrc prog w A h₀ L m env elt x scope cl Q) E s)
    (hs : ∀ x, foldedSetIterable iter env x = pure x := by intro _; rfl) :
    wpAny (model prog w) A (eval (.ListComp elt [⟨.Name x px, iter, [], 0⟩] scope pos) env) Q E s := by
  rw [eval_ListComp]
  refine wpAny_comprehension_free (use := none) rfl hs hclos hkind hnames (wpAny_mono h (fun xv s₁ h₁ => ?_) fun _ _ e => e)
  obtain ⟨b, t, e, oe, vs, news, rfl, hh, F, N, hm, hd, h2, hsz, R⟩ := h₁
  have he := (N _ hm).1
  have hlt : e < s₁.heap.objs.size := Heap.lt_size he
  refine KBw.pyIter_bytes ?_
  have up : ∀ b' o, s₁.heap.get? b' = some o → (s₁.heap.push { cls := .type "bytes_iterator", data := .fields #[.bytes b t, .int 0 0] }).get? b' = some o := fun b' o q => Heap.get?_push_of_some _ q
  refine block_U (walksB hh hd h2 s₁.heap.objs.size (Nat.ne_of_lt hlt) b t) hsz (fun i h st => by obtain ⟨o, q, _⟩ := st.1; exact ⟨o, q⟩)
    (fun i h h' o nw st e1 e2 k N' S => ⟨by obtain ⟨o', q, r⟩ := st.1; rw [e1] at q; cases q; exact ⟨o, e2, r⟩, (N' _ S).1⟩) hcell hkind hx ⟨⟨_, Heap.get?_push_size _ rfl, rfl, rfl⟩, up _ _ he⟩ (fun b' hb => ?_)
    (F.keeps up) (N.grown up) (Nat.ne_of_lt F.ns.lt) (next_is_new F) (fun p hp => Nat.ne_of_lt (Heap.lt_size (N p hp).1)) hm (R _ ⟨_, rfl⟩) ?_
  · show b' < (s₁.heap.push _).objs.size
    rw [Heap.size_push]
    rcases List.mem_cons.mp hb with rfl | hb
    · exact Nat.lt_succ_self _
    · rw [List.mem_singleton.mp hb]; exact Nat.lt_succ_of_lt hlt
  · intro D C h tk m' ys news' F' N' o1 hn hC₀ hD₀ hCL hDL hCD offC fin
    refine ⟨m', hn, fun h'' hs'' => fin D h'' tk (F'.change hs'' hCL hC₀) (fun p hp => ?_) o1⟩
    refine ⟨hs''.extBut _ _ ?_ (N' p hp).1, (N' p hp).2⟩
    rcases List.mem_cons.mp hp with rfl | hp
    · exact Ne.symm hCD
    · exact offC p hp
end
end
section
open PySem PySem.W PyProof.Rows PySem.Spec PySem.Calls
section
variable {prog : Program} {w : World} {A₀ A : Around} {s : Shared} {base h₀ : Heap} {L a : Addr} {m : Str → Option Value} {env : Env} {news : List (Addr × Obj)} {K : Frag} {p : Program} {loose : List Str} {mean : ExcName → Option Value} {mg mb : Str → Option Value}
    {R : Result → Shared → Prop} {name qual : Str} {params : Arguments} {body : List Stmt} {scope : Scope} {dV kV doc pm cdv ct oc : Value} {an od : Option Addr} {osl : Array (Option Value)} {f : Addr} {args : Args} {binds : List (Str × Value)}
/-- a def that catches, called from the one frame that there is (that frame may hold cells) -/
theorem enter_try (B : Below A₀ base [] h₀) (F : Fr h₀ L s.heap m) (X₀ : K.In h₀) (N : News h₀ L s.heap news) (T : Top p loose mean mg mb h₀) (hA : A.frames = some [env]) (hf : env.frame = some L) (hke : env.scope.kind = .function)
    (ho : K.lookup f = some ⟨oc, od, .func (fnOf name qual params body scope dV kV doc pm an cdv ct), osl⟩) (hcd : codeIn K cdv qual = true) (hroom : A.depth < recursionLimit)
    (hbind : BindsTo s (fnOf name qual params body scope dV kV doc pm an cdv ct) args binds) (hloc : ∀ y ∈ binds, scope.names.lookup y.1 = some .local)
    (h : ∀ g L' h₁, Fr h₀ L g m → Fr g L' h₁ (fun y => binds.reverse.lookup y) → News g L' h₁ news → Below A base [env] g → K.In g → Top p loose mean mg mb g → KtsDicts ([env].filterMap (·.frame)) g →
      wpAny (model prog w) (A.deeper (envOf qual scope L' f cdv)) (execs body (envOf qual scope L' f cdv))
        (fun fl s' => LeaveS0 ([env].filterMap (·.frame)) h₀ L m g R (match fl with | .ret v => v | _ => .none) s')
        (fun e s' => wpAny (model prog w) (A.deeper (envOf qual scope L' f cdv)) (leaving (envOf qual scope L' f cdv) e) (fun _ s'' => R (.error e) s'') (fun e' s'' => R (.error e') s'') s')
        { s with heap := h₁, toks := s.toks + binds.length })
    (hco : scope.isCoroutine = false) (hgen : scope.isGenerator = false) (hk : scope.kind = .function)
    (hcell : ∀ x ∈ scope.names, x.2 ≠ .cell) : codeAny (model prog w) A (.call (.ref f) args) R s := by
  have X := X₀.keeps F.keep
  refine codeAny_call_def (fd := fnOf name qual params body scope dV kV doc pm an cdv ct) (body := body) (binds := binds) hroom (X _ _ ho) rfl (T.nolimit.keeps F.keep) (codeRec_of X hcd) rfl hbind hcell hloc (fun h₁ hns hk₁ => ?_) hco hgen hk
  obtain ⟨FG, BG, st, -⟩ := groundX (R := R) B F N hA hf hke
  obtain ⟨oL, es, ep, hL, hLd, hLk, hLf⟩ := F.ns
  have nL : L ∉ news.map (·.1) := fun q => by
    obtain ⟨p, hp, e⟩ := List.mem_map.mp q
    exact (N p hp).2.1 e
  have hLg := hideAll_get (news.map (·.1)) hL nL
  have onL : ∀ b ∈ [env].filterMap (·.frame), b = L := fun b hb => by
    obtain ⟨e, he, hb'⟩ := List.mem_filterMap.mp hb
    rcases List.mem_singleton.mp he with rfl
    exact (Option.some.inj (hf.symm.trans hb')).symm
  refine wpAny_mono (h _ s.heap.objs.size h₁ FG ⟨hns, fun b o e => hk₁ b o (of_hideAll _ e), Nat.le_of_eq (hideAll_size _ _)⟩
    (fun p hp => ⟨hk₁ _ _ (N p hp).1, Nat.ne_of_lt (Heap.lt_size (N p hp).1), hideAll_none _ (List.mem_map_of_mem hp)⟩) BG (X₀.keeps st) (T.keeps st) (fun b hb => by
      rw [onL b hb]
      exact ⟨oL, es, ep, hLg, hLd⟩)) (fun fl s' hl => ?_) fun _ _ y => y
  obtain ⟨g', L', m', news', T', F', N', k⟩ := hl
  have nL₀ : h₀.get? L = none := kts_self F
  obtain ⟨sl, hs⟩ := T'.up hLg
  refine k ⟨⟨_, es, ep, F'.keep _ _ hs, hLd, hLk, hLf⟩, fun b o e => F'.keep b o (T'.other b o (st b o e) (fun q => by
    rw [onL b q, nL₀] at e
    cases e)), F.above⟩ fun p hp => ⟨(N' p hp).1, fun q => ?_, ?_⟩
  · have := (N' p hp).2.2; rw [q, hs] at this; cases this
  · cases q : h₀.get? p.1 with
    | none => rfl
    | some o =>
      obtain ⟨sl', hs'⟩ := T'.up (st _ _ q)
      have := (N' p hp).2.2
      rw [hs'] at this
      cases this
end
end
section
open PySem PySem.W PyProof.Rows PySem.Spec PySem.Calls
/-- of a dict of an object no more is kept than its attribute «operands», and its size -/
def Ops (es : List DictEntry) (v : Value) (k : Nat) : Prop := getL (Str.ofString "operands") es = some (some v) ∧ es.any (·.refKey) = false ∧ es.length ≤ k
theorem putL_len (name : Str) (hsh : Int) (key v : Value) : ∀ es : List DictEntry, (putL name hsh key v es).length ≤ es.length + 1
  | [] => Nat.le_refl _
  | e :: r => by
    unfold putL
    split
    · exact Nat.le_succ _
    · exact Nat.succ_le_succ (putL_len name hsh key v r)
theorem putL_ref (name : Str) (hsh : Int) (t : Tok) (v : Value) : ∀ es : List DictEntry, es.any (·.refKey) = false → (putL name hsh (.str name t) v es).any (·.refKey) = false
  | [], _ => rfl
  | e :: r, h => by
    rw [List.any_cons, Bool.or_eq_false_iff] at h
    unfold putL
    split
    · rw [List.any_cons, h.2, Bool.or_false]; exact h.1
    · rw [List.any_cons, putL_ref name hsh t v r h.2, Bool.or_false]; exact h.1
theorem isStr_two {k : Value} {a b : Str} (h : k.isStr a = true) (hb : k.isStr b = true) : a = b := by
  cases k <;> simp_all [Value.isStr]
theorem putL_get {q name : Str} (hsh : Int) (t : Tok) (v : Value) (hq : name ≠ q) : ∀ es : List DictEntry, (putL name hsh (.str name t) v es).find? (·.key.isStr q) = es.find? (·.key.isStr q)
  | [] => by
    show List.find? _ [_] = none
    rw [List.find?_cons_of_neg]
    · rfl
    · intro h
      exact hq (isStr_two (k := .str name t) (by simp [Value.isStr]) h)
  | e :: r => by
    unfold putL
    by_cases h : e.key.isStr name = true
    · rw [if_pos h]
      have hn : ¬ e.key.isStr q = true := fun h2 => hq (isStr_two h h2)
      rw [List.find?_cons_of_neg (by exact hn), List.find?_cons_of_neg (by exact hn)]
    · rw [if_neg h]
      by_cases h2 : e.key.isStr q = true
      · rw [List.find?_cons_of_pos (by exact h2), List.find?_cons_of_pos (by exact h2)]
      · rw [List.find?_cons_of_neg (by exact h2), List.find?_cons_of_neg (by exact h2)]
        exact putL_get hsh t v hq r
theorem Ops.put {es : List DictEntry} {w v : Value} {k : Nat} {name : Str} (hsh : Int) (t : Tok) (h : Ops es w k) (hn : name ≠ Str.ofString "operands") : Ops (putL name hsh (.str name t) v es) w (k + 1) := by
  obtain ⟨h1, h2, h3⟩ := h
  refine ⟨?_, putL_ref _ _ _ _ _ h2, Nat.le_trans (putL_len _ _ _ _ _) (Nat.succ_le_succ h3)⟩
  rw [← h1]
  unfold getL
  rw [putL_get hsh t v hn, putL_ref _ _ _ _ _ h2, h2]
theorem Ops.some {es : List DictEntry} {w : Value} {k : Nat} (h : Ops es w k) (name : Str) : (getL name es).isSome = true := by
  unfold getL
  split
  · rfl
  · rw [h.2.1]; rfl
section
variable {prog : Program} {w : World} {A : Around} {E : Value → Shared → Prop} {s : Shared} {K : Frag} {x C dx L : Addr} {h₀ : Heap} {m : Str → Option Value} {news : List (Addr × Obj)} {nw : List DictEntry → Nat → List (Addr × Obj)} {ox : Obj} {es : List DictEntry} {n k : Nat} {name : Str} {v o : Value}
theorem set_keep {Q : Unit → Shared → Prop} (hO : Ops es o k) (hne : name ≠ Str.ofString "operands") (hk : k + 1 ≤ 1000) (F : Fr h₀ L s.heap m) (X₀ : K.In h₀) (N : News h₀ L s.heap news) (I : InstAt s.heap x ox C (some (dictOf es n))) (hd : ox.dict = some dx)
    (hs : findIn K (.ref C) "__setattr__" = some (some (.builtin "object.__setattr__"))) (hp : plainOver K C = true) (ht : takerIn K C name = some none) (hh : hasDictIn K C = true)
    (U : ∀ es' n', Upd dx (dictOf es n) (dictOf es' n') news (nw es' n'))
    (h : ∀ h' es' n', Ops es' o (k + 1) → Fr h₀ L h' m → News h₀ L h' (nw es' n') → Q () { s with heap := h', toks := s.toks + 2 }) :
    wpAny (model prog w) A (setAttr (.ref x) name v) Q E s :=
  set_dict F X₀ N I hd hs hp ht hh (hO.some name) rfl (U _ _) (Nat.le_trans (hO.put _ _ hne).2.2 hk) fun h' F' N' => h h' _ _ (hO.put _ _ hne) F' N'
theorem set_keepR {Q : Unit → Shared → Prop} (F : Fr h₀ L s.heap m) (X₀ : K.In h₀) (N : News h₀ L s.heap news) (I : InstAt s.heap x ox C (some (dictOf es n))) (hO : Ops es o k) (hne : name ≠ Str.ofString "operands") (hk : k + 1 ≤ 1000) (hd : ox.dict = some dx)
    (hs : findIn K (.ref C) "__setattr__" = some (some (.builtin "object.__setattr__"))) (hp : plainOver K C = true) (ht : takerIn K C name = some none) (hh : hasDictIn K C = true)
    (U : ∀ es' n', Upd dx (dictOf es n) (dictOf es' n') news (nw es' n'))
    (h : ∀ h' es' n', Ops es' o (k + 1) → Fr h₀ L h' m → News h₀ L h' (nw es' n') → Q () { s with heap := h', toks := s.toks + 2 }) :
    wpAny (model prog w) A (setAttr (.ref x) name v) Q E s := set_keep hO hne hk F X₀ N I hd hs hp ht hh U h
end
end
section
open PySem PySem.W PyProof.Rows PySem.Spec PySem.Calls
section
variable {prog : Program} {w : World} {A : Around} {E : Value → Shared → Prop} {s : Shared} {K : Frag} {h₀ : Heap} {L x dx C a : Addr} {m mg mb : Str → Option Value} {env : Env} {p : Program} {loose : List Str}
  {cn : Str} {cs : Scope} {ccd : Value} {cl : List (Str × Addr)} {nm y : Str} {pos : Pos} {e : Expr} {sts : List Stmt} {k : Nat} {v : Value} {i : Int} {b : Bool}
/-- an expression that changes nothing (it may make an object, or a token) -/
def SimE (M : Model) (A : Around) (E : Value → Shared → Prop) (s : Shared) (h₀ : Heap) (L : Addr) (m : Str → Option Value) (env : Env) (e : Expr) : Prop :=
  ∀ (hp : Heap) (t : Nat) (led : List (Addr × Obj)) (Q : Value → Shared → Prop), Fr h₀ L hp m → News h₀ L hp led → (∀ v h' t', Fr h₀ L h' m → News h₀ L h' led → Q v ⟨h', s.gens, s.drawn, t', s.os⟩) → wpAny M A (eval e env) Q E ⟨hp, s.gens, s.drawn, t, s.os⟩
theorem SimE.none {M : Model} : SimE M A E s h₀ L m env (.Constant .none k pos) := fun _ _ _ _ F N h => wpAny_Constant_none (h _ _ _ F N)
theorem SimE.bool {M : Model} : SimE M A E s h₀ L m env (.Constant (.bool b) k pos) := fun _ _ _ _ F N h => wpAny_Constant_bool (h _ _ _ F N)
theorem SimE.int {M : Model} : SimE M A E s h₀ L m env (.Constant (.int i) k pos) := fun _ _ _ _ F N h => wpAny_Constant_int (h _ _ _ F N)
theorem SimE.loc {M : Model} (hk : cs.kind = .function) (hx : (envX cn cs L a ccd cl).kindOf y = some .local) (hv : m y = some v) (hd : (y == Str.ofString "__debug__") = false) : SimE M A E s h₀ L m (envX cn cs L a ccd cl) (.Name y pos) :=
  fun hp t _ _ F N h => nameX_L (s := ⟨hp, s.gens, s.drawn, t, s.os⟩) F hv (h _ _ _ F N) hk hx hd
theorem SimE.glo {M : Model} (X : K.In h₀) (T : TopRead p loose mg mb h₀) (hv : nsIn K mainGlobals y = some (some v)) (hk : cs.kind = .function) (hx : (envX cn cs L a ccd cl).kindOf y = some .globalImplicit) (hd : (y == Str.ofString "__debug__") = false) : SimE M A E s h₀ L m (envX cn cs L a ccd cl) (.Name y pos) :=
  fun hp t _ _ F N h => nameX_K (s := ⟨hp, s.gens, s.drawn, t, s.os⟩) F X T hv (h _ _ _ F N) hk hx hd
theorem SimE.list {M : Model} : SimE M A E s h₀ L m env (.List [] pos) :=
  fun hp t _ _ F N h => List_ (args_nil (s := ⟨hp, s.gens, s.drawn, t, s.os⟩) (newList_K F N (fun _ h' F' N' _ => h _ h' t F' fun q hq => N' q (.tail _ hq)) (Nat.zero_le _)))
theorem SimE.dict (T : TopRead p loose mg mb h₀) : SimE (model prog w) A E s h₀ L m env (.Dict [] [] pos) :=
  fun hp t _ _ F N h => newDict_K (s := ⟨hp, s.gens, s.drawn, t, s.os⟩) F N T.nolimit (fun _ h' _ F' N' _ _ _ _ _ _ => h _ h' _ F' fun q hq => N' q (.tail _ hq))
/-- statements «self.name = e», none of which names «operands» -/
inductive Sets (K : Frag) (C : Addr) (M : Model) (A : Around) (E : Value → Shared → Prop) (s : Shared) (h₀ : Heap) (L : Addr) (m : Str → Option Value) (env : Env) : List Stmt → Prop where
  | nil : Sets K C M A E s h₀ L m env []
  | cons {e : Expr} {nm : Str} {p1 p2 p3 : Pos} {sts : List Stmt} (he : SimE M A E s h₀ L m env e) (hsw : swapsWith e (some (.Attribute (.Name (Str.ofString "self") p1) nm p2)) p3.line env = pure false) (hne : nm ≠ Str.ofString "operands") (ht : takerIn K C nm = some none)
      (hs : Sets K C M A E s h₀ L m env sts) : Sets K C M A E s h₀ L m env (.Assign [.Attribute (.Name (Str.ofString "self") p1) nm p2] e p3 :: sts)
theorem sets_run {o : Value} (hk : cs.kind = .function) (hx : (envX cn cs L a ccd cl).kindOf (Str.ofString "self") = some .local) (hv : m (Str.ofString "self") = some (.ref x)) (X₀ : K.In h₀)
    (hs : findIn K (.ref C) "__setattr__" = some (some (.builtin "object.__setattr__"))) (hp : plainOver K C = true) (hh : hasDictIn K C = true) (B : Sets K C (model prog w) A E s h₀ L m (envX cn cs L a ccd cl) sts) :
    ∀ {news : List (Addr × Obj)} {es : List DictEntry} {n j : Nat} {h : Heap} {t : Nat} {Q : Flow → Shared → Prop}, Fr h₀ L h m → News h₀ L h ((x, instObj C dx) :: (dx, dictOf es n) :: news) → Ops es o j → j + sts.length ≤ 1000 → @Ne Nat x dx → (∀ q ∈ news, q.1 ≠ dx) →
      (∀ h' t' es' n', Ops es' o (j + sts.length) → Fr h₀ L h' m → News h₀ L h' ((x, instObj C dx) :: (dx, dictOf es' n') :: news) → Q .next ⟨h', s.gens, s.drawn, t', s.os⟩) →
      wpAny (model prog w) A (execs sts (envX cn cs L a ccd cl)) Q E ⟨h, s.gens, s.drawn, t, s.os⟩ := by
  induction B with
  | nil => intro news es n j h t Q F N hO hj hxd hnd k; exact wpAny_execs_nil (k h t es n hO F N)
  | @cons e nm p1 p2 p3 sts he hsw hne ht _ ih =>
    intro news es n j h t Q F N hO hj hxd hnd k
    rw [List.length_cons] at hj
    refine wpAny_execs_cons (plainObj_wpAny_Assign_Attribute (he h t _ _ F N fun v h1 t1 F1 N1 => ?_) hsw)
    refine nameX_L (s := ⟨h1, s.gens, s.drawn, t1, s.os⟩) F1 hv ?_ hk hx (by decide)
    refine set_keepR (s := ⟨h1, s.gens, s.drawn, t1, s.os⟩) F1 X₀ N1 (InstAt.of_news N1 (.head _) (.tail _ (.head _))) hO hne (by omega) rfl hs hp ht hh (fun es' n' => .tail hxd (.head hnd)) fun h2 es2 n2 O2 F2 N2 => ?_
    exact ih F2 N2 O2 (by omega) hxd hnd fun h' t' es' n' O' F' N' => k h' t' es' n' (by rw [List.length_cons, show j + (sts.length + 1) = j + 1 + sts.length by omega]; exact O') F' N'
/-- the same, its premises in the order in which a line finds them -/
theorem sets_go {o : Value} {news : List (Addr × Obj)} {es : List DictEntry} {n j : Nat} {h : Heap} {t : Nat} {Q : Flow → Shared → Prop} (F : Fr h₀ L h m) (N : News h₀ L h ((x, instObj C dx) :: (dx, dictOf es n) :: news)) (hO : Ops es o j)
    (hk : cs.kind = .function) (hx : (envX cn cs L a ccd cl).kindOf (Str.ofString "self") = some .local) (hv : m (Str.ofString "self") = some (.ref x)) (X₀ : K.In h₀)
    (hs : findIn K (.ref C) "__setattr__" = some (some (.builtin "object.__setattr__"))) (hp : plainOver K C = true) (hh : hasDictIn K C = true) (hj : j + sts.length ≤ 1000) (hxd : @Ne Nat x dx) (hnd : ∀ q ∈ news, q.1 ≠ dx) (B : Sets K C (model prog w) A E s h₀ L m (envX cn cs L a ccd cl) sts)
    (k : ∀ h' t' es' n', Ops es' o (j + sts.length) → Fr h₀ L h' m → News h₀ L h' ((x, instObj C dx) :: (dx, dictOf es' n') :: news) → Q .next ⟨h', s.gens, s.drawn, t', s.os⟩) :
    wpAny (model prog w) A (execs sts (envX cn cs L a ccd cl)) Q E ⟨h, s.gens, s.drawn, t, s.os⟩ := sets_run hk hx hv X₀ hs hp hh B F N hO hj hxd hnd k
end
end
theorem ltAll {l : Led} {d : Nat} (h : ∀ q ∈ l, q.1 < d) : ∀ q ∈ l, q.1 ≠ d := fun q hq => Nat.ne_of_lt (h q hq)
theorem ltAll' {l : Led} {d : Nat} (h : AllLt d l) : ∀ q ∈ l, q.1 ≠ d := fun q hq => Nat.ne_of_lt (ktn_ltOf h q hq)

def Op.fn : Op → Addr
  | .int _ => 209
  | .real _ => 216
  | .bool _ => 223
/-- r is l without x -/
inductive Wo (x : Addr × Obj) : Led → Led → Prop where
  | head {r : Led} : Wo x (x :: r) r
  | tail {y : Addr × Obj} {l r : Led} : Wo x l r → Wo x (y :: l) (y :: r)
theorem Wo.mem {x : Addr × Obj} {l r : Led} (h : Wo x l r) : x ∈ l := by
  induction h with
  | head => exact .head _
  | tail _ ih => exact .tail _ ih
theorem Wo.sub {x : Addr × Obj} {l r : Led} (h : Wo x l r) : ∀ q ∈ r, q ∈ l := by
  induction h with
  | head => exact fun q hq => .tail _ hq
  | tail _ ih =>
    intro q hq
    rcases List.mem_cons.mp hq with rfl | hq
    · exact .head _
    · exact .tail _ (ih q hq)
theorem Wo.oth {x q : Addr × Obj} {l r : Led} (hw : Wo x l r) (hq : q ∈ l) (hc : q.2.cls ≠ x.2.cls) : q ∈ r := by
  induction hw with
  | head =>
    rcases List.mem_cons.mp hq with rfl | hq
    · exact absurd rfl hc
    · exact hq
  | tail _ ih =>
    rcases List.mem_cons.mp hq with rfl | hq
    · exact .head _
    · exact .tail _ (ih hq)
theorem cI {a b : Addr} {xs : Array Value} {n : Nat} : (instObj a b).cls ≠ (listOf xs n).cls := by intro e; cases e
theorem cD {es : List DictEntry} {k : Nat} {xs : Array Value} {n : Nat} : (dictOf es k).cls ≠ (listOf xs n).cls := fun e => absurd (Value.type.inj e) (by decide)
theorem ge20 {prog : Program} {w : World} {A : Around} {E : Value → Shared → Prop} {s : Shared} {k : Nat} {t u : Tok} {Q : Value → Shared → Prop} (hk : k < 20) (h : Q (.bool false) s) : wpAny (model prog w) A (compareOp .GtE (.int (k : Int) t) (.int 20 u)) Q E s :=
  PyProof.Rows.ge_int (by rw [show decide ((20 : Int) ≤ (k : Int)) = false from decide_eq_false (by omega)]; exact h)
theorem told_getN {prog : Program} {w : World} {A : Around} {E : Value → Shared → Prop} {s : Shared} {h₀ : Heap} {L : Addr} {m : Str → Option Value} {news : Led} {e d : Addr} {vs : Array Value} {tk : Tok} {v : Value} {expr : Bool} {Q : Value → Shared → Prop} (X : (Kp w.params).In h₀) (F : Fr h₀ L s.heap m) (N : News h₀ L s.heap news)
    (he : (e, (⟨.ref 52, some d, .fields vs, #[]⟩ : Obj)) ∈ news) (hd : (d, toldD w tk v) ∈ news) (hv : handedIn v = true)
    (hq : Q v { s with toks := s.toks + 1 }) : wpAny (model prog w) A (getAttr (.ref e) "told" expr) Q E s :=
  told_get (X.keeps F.keep) (N _ he).1 (N _ hd).1 hv hq
/-- chr -/
abbrev chrS (k : Int) : Str := ⟨#[k.toNat]⟩
theorem BSrc.text {prog : Program} {w : World} {A : Around} {h₀ : Heap} {L : Addr} {m : Str → Option Value} {env : Env} {elt : Expr} {x : Str} {scope : Scope} {cl : List (Str × Addr)} {Q : Value → Shared → Prop} {b : Array UInt8} {t : Tok} {s₁ : Shared} {e d : Addr} {vs : Array Value} {news : Led}
    (hh : A.handled = some (.ref e)) (F : Fr h₀ L s₁.heap m) (N : News h₀ L s₁.heap news) (hm : (e, (⟨.ref 52, some d, .fields vs, #[]⟩ : Obj)) ∈ news) (h2 : vs[2]? = some .none) (hsz : b.size ≤ 100)
    (turn : ∀ k t I oI C oC D m₂ ys h tk (E' : Value → Shared → Prop), 0 ≤ k → k < 256 → LCg.NsObj oC m₂ → m₂ x = some (.int k t) → Fr h₀ L h m → News h₀ L h ((I, oI) :: (C, oC) :: (D, LCg.lst ys) :: news) → LCg.Off3 I C D news → ((@Ne Nat I C) ∧ (@Ne Nat I D) ∧ (@Ne Nat C D)) →
      wpAny (model prog w) A (eval elt (compEnvC scope cl C env)) (LCg.CompEnd h₀ L m { s₁ with heap := h, toks := tk } I oI C oC D (LCg.lst ys) (fun nw => (e, (⟨.ref 52, some d, .fields vs, #[]⟩ : Obj)) ∈ nw) (fun y news' => KCtEl news (chrS k) y news')) E' { s₁ with heap := h, toks := tk })
    (fin : ∀ ys D h tk, CarriedAll ys ((KBw.bInts b).map fun k => PyData.str (chrS k)) → Fr h₀ L h m → News h₀ L h ((D, LCg.lst ys) :: news) → Q (.ref D) { s₁ with heap := h, toks := tk }) :
    BSrc prog w A h₀ L m env elt x scope cl Q (.bytes b t) s₁ := by
  refine ⟨b, t, e, _, vs, news, rfl, hh, F, N, hm, rfl, h2, Nat.le_trans hsz (by decide +kernel), ?_⟩
  rintro s₂ ⟨g, rfl⟩
  exact kct_rest (ks := KBw.bInts b) chrS (KBw.ints_length b) (fun i v hi ⟨c, u, hc, hv⟩ => ⟨_, u, KBw.ints_get hc, hv⟩)
    (fun k t I oI C oC D m₂ ys h tk E' hk hC hx F' N' off ne _ => turn k t I oI C oC D m₂ ys h tk E' (KBw.ints_in hk).1 (KBw.ints_in hk).2 hC hx F' N' off ne)
    (fun ys hc hn D h tk F' N' _ => fin ys D h tk hc F' N')
/-- the names of errors that there are -/
def Nm (b : Array UInt8) : Prop := b = limitcheck ∨ b = undefinedresult ∨ b = typecheck ∨ b = stackunderflow
theorem nmS {b : Array UInt8} (h : b = stackunderflow) : Nm b := .inr (.inr (.inr h))
theorem Nm.sz {b : Array UInt8} (h : Nm b) : b.size ≤ 100 := by rcases h with rfl | rfl | rfl | rfl <;> decide
theorem Nm.txt {b : Array UInt8} (h : Nm b) : PySem.Txt.join (PySem.Str.ofString "") ((KBw.bInts b).map chrS) = txt b := by
  rcases h with rfl | rfl | rfl | rfl <;> decide +kernel
theorem join_told {prog : Program} {w : World} {A : Around} {E : Value → Shared → Prop} {s : Shared} {h₀ : Heap} {L : Addr} {news : Led} {b : Array UInt8} {D : Addr} {ys : List Value} {t : Tok} {Q : Value → Shared → Prop} (hb : Nm b) (N : News h₀ L s.heap ((D, LCg.lst ys) :: news)) (hc : CarriedAll ys ((KBw.bInts b).map fun k => PyData.str (chrS k)))
    (h : ∀ t' k, Q (.str (txt b) t') { s with toks := k }) : wpAny (model prog w) A (call (.builtin "str.join") [.str (PySem.Str.ofString "") t, .ref D]) Q E s := by
  refine KT.join_1 (l := KBw.bInts b) (g := chrS) ⟨_, (N _ (.head _)).1, rfl, _, rfl⟩ hc (fun _ _ => rfl) ?_ fun t' k _ => ?_
  · rw [KBw.ints_length]; exact Nat.le_trans hb.sz (by decide)
  · rw [hb.txt]; exact h t' k
theorem realNm {m : Int} {b : Array UInt8} (h : realF m = .bad b) : Nm b := by
  unfold realF at h
  split at h
  · cases h
  · cases h; exact .inl rfl
theorem wholeNm {m : Int} {b : Array UInt8} (h : wholeF m = .bad b) : Nm b := by
  unfold wholeF at h
  split at h
  · cases h
  · exact realNm h
theorem negNm {o : Op} {b : Array UInt8} (h : negF o = .bad b) : Nm b := by cases o <;> simp only [negF] at h <;> first | exact wholeNm h | cases h
theorem numNm2 {f : Op → Op → Res} {o1 o2 : Op} {b : Array UInt8} (hf : f o1 o2 = .bad b → Nm b) (h : numF2 f o1 o2 = .bad b) : Nm b := by
  unfold numF2 at h
  split at h
  · exact hf h
  · cases h; exact .inr (.inr (.inl rfl))
theorem numNm1 {f : Op → Res} {o : Op} {b : Array UInt8} (hf : f o = .bad b → Nm b) (h : numF1 f o = .bad b) : Nm b := by
  unfold numF1 at h
  split at h
  · exact hf h
  · cases h; exact .inr (.inr (.inl rfl))
theorem intNm {f : Int → Int → Res} {o1 o2 : Op} {b : Array UInt8} (hf : ∀ x y, f x y = .bad b → Nm b) (h : intF2 f o1 o2 = .bad b) : Nm b := by
  cases o1 <;> cases o2 <;> first | exact hf _ _ h | (cases h; exact .inr (.inr (.inl rfl)))
theorem idNm {f : Int} {b : Array UInt8} (h : (if fitsI f then Res.ok (Op.int f) else Res.bad undefinedresult) = Res.bad b) : Nm b := by
  by_cases hq : fitsI f
  · rw [if_pos hq] at h; cases h
  · rw [if_neg hq] at h; cases h; exact .inr (.inl rfl)
theorem nm2 {c : Wd} {o1 o2 : Op} {b : Array UInt8} (h : machF2 c o1 o2 = .bad b) : Nm b := by
  cases c
  case add => exact numNm2 (fun h => by cases o1 <;> cases o2 <;> simp only [addF] at h <;> first | exact wholeNm h | exact realNm h) h
  case sub => exact numNm2 (fun h => by cases o1 <;> cases o2 <;> simp only [subF] at h <;> first | exact wholeNm h | exact realNm h) h
  case mul => exact numNm2 (fun h => by cases o1 <;> cases o2 <;> simp only [mulF] at h <;> first | exact wholeNm h | exact realNm h) h
  case div => exact numNm2 (fun h => by unfold quotF at h; split at h <;> first | exact realNm h | (cases h; exact .inr (.inl rfl))) h
  case idiv => exact intNm (fun x y h => by (unfold idivF at h; split at h <;> first | (cases h; exact .inr (.inl rfl)) | (dsimp only at h; generalize (if x < 0 ↔ y < 0 then (absI x).fdiv (absI y) else -(absI x).fdiv (absI y)) = f at h; exact idNm h))) h
  case mod => exact intNm (fun x y h => by (unfold modF at h; split at h <;> first | (cases h; done) | (cases h; exact .inr (.inl rfl)))) h
  all_goals first
    | exact numNm2 (f := fun a b => .ok (.bool (lessB a b))) (fun h => by cases h) h
    | exact numNm2 (f := fun a b => .ok (.bool (lessB b a))) (fun h => by cases h) h
    | exact numNm2 (f := fun a b => .ok (.bool (!lessB a b))) (fun h => by cases h) h
    | exact numNm2 (f := fun a b => .ok (.bool (!lessB b a))) (fun h => by cases h) h
    | (cases h; done)
    | (cases h; exact .inr (.inr (.inl rfl)))
theorem nm1 {c : Wd} {o : Op} {b : Array UInt8} (h : machF1 c o = .bad b) : Nm b := by
  cases c
  case neg => exact numNm1 negNm h
  case abs => exact numNm1 (fun h => by (unfold absF at h; split at h <;> first | exact negNm h | (cases h; done))) h
  case ceiling => exact numNm1 (fun h => by cases o <;> simp only [ceilF] at h <;> first | exact realNm h | cases h) h
  case floor => exact numNm1 (fun h => by cases o <;> simp only [floorF] at h <;> first | exact realNm h | cases h) h
  case round => exact numNm1 (fun h => by cases o <;> simp only [roundF] at h <;> first | exact realNm h | cases h) h
  case truncate => exact numNm1 (fun h => by cases o <;> simp only [truncF] at h <;> cases h) h
  all_goals (cases h; exact .inr (.inr (.inl rfl)))
theorem Wo.news {h₀ h : Heap} {L : Addr} {x : Addr × Obj} {l r : Led} (hw : Wo x l r) (N : News h₀ L h l) : News h₀ L h (x :: r) := fun q hq => by
  rcases List.mem_cons.mp hq with rfl | hq
  · exact N _ hw.mem
  · exact N _ (hw.sub _ hq)

theorem CompEnd_new {h₀ : Heap} {L I C D T : Addr} {m : Str → Option Value} {s₁ : Shared} {oI oC oD oT : Obj} {S : Led → Prop} {rest : Value → Led → Prop} {y : Value} {h' : Heap} {tk : Nat} {news : Led} {R : Prop}
    (F : Fr h₀ L h' m) (N : News h₀ L h' ((T, oT) :: (I, oI) :: (C, oC) :: (D, oD) :: news)) (off : LCg.Off3 I C D news) (lt : @LT.lt Nat _ I T ∧ @LT.lt Nat _ C T ∧ @LT.lt Nat _ D T ∧ R) (hS : S ((T, oT) :: news)) (r : rest y ((T, oT) :: news)) :
    LCg.CompEnd h₀ L m s₁ I oI C oC D oD S rest y { s₁ with heap := h', toks := tk } :=
  LCg.CompEnd.intro F N ((T, oT) :: news) (fun q hq => by
    rcases List.mem_cons.mp hq with rfl | hq
    · exact .tail _ (.head _)
    · rcases List.mem_cons.mp hq with rfl | hq
      · exact .tail _ (.tail _ (.head _))
      · rcases List.mem_cons.mp hq with rfl | hq
        · exact .tail _ (.tail _ (.tail _ (.head _)))
        · rcases List.mem_cons.mp hq with rfl | hq
          · exact .head _
          · exact .tail _ (.tail _ (.tail _ (.tail _ hq))))
    ⟨⟨Nat.ne_of_gt lt.1, Nat.ne_of_gt lt.2.1, Nat.ne_of_gt lt.2.2.1⟩, off⟩ hS r
theorem kd_val {o : Op} {a1 a2 a3 : Tok} : valueAt (strPairs [(.str (Str.ofString "integer") a1, .ref 209), (.str (Str.ofString "real") a2, .ref 216), (.str (Str.ofString "boolean") a3, .ref 223)]) o.kd = some (.ref o.fn) := by
  cases o <;> first | rfl | kernel_rfl
theorem kfn (P : Params) (o : Op) : keepIn (Kp P) (.ref o.fn) = true := by cases o <;> kernel_rfl

def Sub (a b : Led) : Prop := ∀ q ∈ a, q ∈ b
theorem tailNe {l : Led} {d s t : Nat} (h : ∀ q ∈ l, q.1 < d) (h1 : d < s) (h2 : s < t) : ∀ q ∈ l, q.1 ≠ t := fun q hq => Nat.ne_of_lt (Nat.lt_trans (h q hq) (Nat.lt_trans h1 h2))
theorem neC {T : Addr} {x : Addr × Obj} {l : Led} (h : @Ne Nat x.1 T) (hl : ∀ q ∈ l, q.1 ≠ T) : ∀ q ∈ x :: l, q.1 ≠ T := List.forall_mem_cons.mpr ⟨h, hl⟩
/-- one of the operands handed in -/
structure It where
  a : Addr
  o : Op
  t1 : Tok
  t2 : Tok
abbrev It.val (i : It) : Value := .ref i.a
inductive Things (w : World) (l : Led) : List Value → List Op → Prop where
  | nil : Things w l [] []
  | cons {z : Addr} {o : Op} {t : Tok} {vs : List Value} {os : List Op} : ThingAt w l z o.kd (o.val t) → Things w l vs os → Things w l (.ref z :: vs) (o :: os)
theorem Things.snoc {w : World} {l : Led} {z : Addr} {o : Op} {t : Tok} {vs : List Value} {os : List Op} (h : Things w l vs os) (hz : ThingAt w l z o.kd (o.val t)) : Things w l (vs ++ [.ref z]) (os ++ [o]) := by
  induction h with
  | nil => exact .cons hz .nil
  | cons h1 _ ih => exact .cons h1 ih
theorem Things.sub {w : World} {l l' : Led} {vs : List Value} {os : List Op} (h : Things w l vs os) (hs : ∀ q ∈ l, q ∈ l') : Things w l' vs os := by
  induction h with
  | nil => exact .nil
  | cons h1 _ ih => exact .cons (h1.sub hs) ih
theorem Things.len {w : World} {l : Led} {vs : List Value} {os : List Op} (h : Things w l vs os) : vs.length = os.length := by
  induction h with
  | nil => rfl
  | cons _ _ ih => simp [ih]
abbrev mK (m : Str → Option Value) (a b : Option Value) : Str → Option Value := fun y => if y = Str.ofString "value" then b else if y = Str.ofString "kind" then a else m y
theorem mK_upd {m : Str → Option Value} {a b x y : Option Value} : (fun z => if z = Str.ofString "value" then y else if z = Str.ofString "kind" then x else mK m a b z) = mK m x y := funext fun z => by
  unfold mK
  split
  · rfl
  · split <;> rfl
theorem mK_self {m : Str → Option Value} : m = mK m (m (Str.ofString "kind")) (m (Str.ofString "value")) := funext fun z => by
  unfold mK
  split
  · next h => rw [h]
  · split
    · next h => rw [h]
    · rfl
inductive HoldJ (w : World) (m₀ : Str → Option Value) (MA TL : Addr) (led : Led) (os : List Op) : (Str → Option Value) → Led → Prop where
  | mk (a b : Option Value) (vs : List Value) (n : Nat) (nx : Led) (h1 : Things w nx vs os) (h2 : MachAt w nx MA TL) (h3 : Sub led nx) (h4 : ∀ q ∈ nx, q.1 ≠ TL) : HoldJ w m₀ MA TL led os (mK m₀ a b) ((TL, listOf vs.toArray n) :: nx)
/-- the loop over the operands: each turn puts one thing -/
theorem heard_loop {prog : Program} {w : World} {A : Around} {E : Value → Shared → Prop} {s : Shared} {env : Env} {h₀ : Heap} {target : Expr} {body : List Stmt} {Q : Flow → Shared → Prop} {SO TL MA : Addr} {items : List It} {m₀ : Str → Option Value} {led0 nx led : Led} {nS nT : Nat}
    (hh : A.handled = none) (F : Fr h₀ env.locals s.heap m₀) (N : News h₀ env.locals s.heap led0) (hSO : (SO, listOf (items.map It.val).toArray nS) ∈ led) (hit : ∀ i ∈ items, (i.a, tupO i.o i.t1 i.t2) ∈ led) (hlen : items.length ≤ 4)
    (hM0 : MachAt w led0 MA TL) (hL : Wo (TL, listOf #[] nT) led0 nx) (hs : Sub led nx) (hT : ∀ q ∈ nx, q.1 ≠ TL)
    (turn : ∀ (i : It) (os : List Op) (I : Addr) (it : Obj) (a b : Option Value) (vs : List Value) (n : Nat) (nx' : Led) (h : Heap) (tk : Nat), (i.a, tupO i.o i.t1 i.t2) ∈ nx' → vs.toArray.size < 20 → MachAt w nx' MA TL → Things w nx' vs os → Sub led nx' → (∀ q ∈ nx', q.1 ≠ TL) → (∀ q ∈ nx', q.1 ≠ I) → @Ne Nat I TL →
      it.cls = .type "list_iterator" → Fr h₀ env.locals h (mK m₀ a b) → News h₀ env.locals h ((I, it) :: (TL, listOf vs.toArray n) :: nx') →
      wpAny (model prog w) A (assign target env (.ref i.a)) (fun _ s₂ => wpAny (model prog w) A (execs body env) (UnrPostW h₀ env.locals { s with heap := h, toks := tk } [(I, it)] (HoldJ w m₀ MA TL led (os ++ [i.o])) Q) E s₂) E { s with heap := h, toks := tk })
    (done : ∀ (a b : Option Value) (vs : List Value) (n : Nat) (nx' : Led) (h : Heap) (tk : Nat), MachAt w nx' MA TL → Things w nx' vs (items.map It.o) → Sub led nx' → (∀ q ∈ nx', q.1 ≠ TL) → Fr h₀ env.locals h (mK m₀ a b) → News h₀ env.locals h ((TL, listOf vs.toArray n) :: nx') → Q .next { s with heap := h, toks := tk }) :
    wpAny (model prog w) A (pyIter (.ref SO)) (fun it s₂ => TurnsAt prog w A h₀ env target body Q E it s₂) E s := by
  have N1 := hL.news N
  have hM : MachAt w nx MA TL := by
    obtain ⟨dM, MD, nM, S, dS, k1, k2, t, a, b, c, d, e⟩ := hM0
    exact ⟨dM, MD, nM, S, dS, k1, k2, t, hL.oth a cI, hL.oth b cD, c, hL.oth d cI, hL.oth e cD⟩
  refine iter_listTurns hh F N1 (.tail _ (hs _ hSO)) rfl rfl fun I hI => ?_
  have go : ∀ (r : List It) (os : List Op), os ++ r.map It.o = items.map It.o → (∀ i ∈ r, i ∈ items) → os.length + r.length = items.length → ∀ m' n', (∀ p ∈ n', p.1 ≠ I) → HoldJ w m₀ MA TL led os m' n' →
      ItemsRest prog w A E h₀ env target body Q s [(I, "list_iterator")] [(SO, listOf (items.map It.val).toArray nS)] ((r.map It.val).map .val) m' n' := by
    intro r
    induction r with
    | nil =>
      rintro os ho - - m' n' hIn ⟨a, b, vs, n, nx', hth, hm, hsub, hTL⟩
      rw [List.map_nil, List.append_nil] at ho
      subst ho
      exact ItemsRest.zero fun h tk F' N' => done a b vs n nx' h tk hm hth hsub hTL F' N'
    | cons i r ih =>
      rintro os ho hr hlen' m' n' hIn ⟨a, b, vs, n, nx', hth, hm, hsub, hTL⟩
      refine ItemsRest.val fun h tk F' => AllObj.cons fun it hit' => AllObj.nil fun N' => ?_
      refine wpAny_mono (turn i os I it a b vs n nx' h tk (hsub _ (hit _ (hr _ (.head _)))) (by rw [List.size_toArray, hth.len]; simp only [List.length_cons] at hlen'; omega) hm hth hsub hTL (fun q hq => hIn q (.tail _ hq)) (Ne.symm (hIn _ (.head _))) hit' F' N') (fun _ s₂ h₂ => wpAny_mono h₂ (fun f s₃ p => ?_) fun _ _ e => e) fun _ _ e => e
      have up : UnrEndW h₀ env.locals { s with heap := h, toks := tk } [(I, it)] (HoldJ w m₀ MA TL led (os ++ [i.o])) s₃ → UnrEndW h₀ env.locals { s with heap := h, toks := tk } [(I, it)] (fun m' n' => SubL [(SO, listOf (items.map It.val).toArray nS)] n' ∧ ItemsRest prog w A E h₀ env target body Q s [(I, "list_iterator")] [(SO, listOf (items.map It.val).toArray nS)] ((r.map It.val).map .val) m' n') s₃ := by
        rintro ⟨h', tk', m', n', e, F', N', ho', r'⟩
        refine ⟨h', tk', m', n', e, F', N', ho', ?_, ih (os ++ [i.o]) (by rw [List.append_assoc]; exact ho) (fun j hj => hr j (.tail _ hj)) (by simp only [List.length_cons, List.length_append, List.length_nil] at hlen' ⊢; omega) m' n' (fun p hp => ho' p hp (I, it) (.head _)) r'⟩
        obtain ⟨_, _, _, _, nx2, _, _, hsub2, _⟩ := r'
        exact ⟨.tail _ (hsub2 _ hSO), trivial⟩
      cases f with
      | ret v => exact p
      | brk => exact p
      | next => exact up p
      | cont => exact up p
  have h0 : HoldJ w m₀ MA TL led [] (mK m₀ (m₀ (Str.ofString "kind")) (m₀ (Str.ofString "value"))) ((TL, listOf #[] nT) :: nx) := .mk _ _ [] nT nx .nil hM hs hT
  rw [← mK_self] at h0
  exact go items [] rfl (fun _ h => h) (by simp) m₀ _ (fun p hp => Nat.ne_of_lt (hI p hp)) h0
/-- the turn's end -/
theorem heard_end {w : World} {L MA TL I z dz : Addr} {it : Obj} {s₁ : Shared} {h₀ h' : Heap} {tk : Nat} {m₀ : Str → Option Value} {led nx all : Led} {os : List Op} {a b x y : Option Value} {vs : List Value} {n : Nat} {o : Op} {t k1 k2 k3 k4 t1 t2 : Tok}
    (hth : Things w nx vs os) (hm : MachAt w nx MA TL) (hl : Sub led nx) (hTL : ∀ q ∈ nx, q.1 ≠ TL) (hIn : ∀ q ∈ nx, q.1 ≠ I) (hIT : @Ne Nat I TL) (hit : it.cls = .type "list_iterator")
    (F : Fr h₀ L h' (fun z => if z = Str.ofString "value" then y else if z = Str.ofString "kind" then x else mK m₀ a b z)) (N : News h₀ L h' all) (h1 : (TL, listOf (vs.toArray.push (.ref z)) n) ∈ all) (h2 : (z, instObj 198 dz) ∈ all) (h3 : (dz, thD w k1 k2 k3 k4 t1 t2 o.kd (o.val t)) ∈ all) (hI : (I, it) ∈ all) (hs : Sub nx all) :
    UnrEndW h₀ L s₁ [(I, it)] (HoldJ w m₀ MA TL led (os ++ [o])) { s₁ with heap := h', toks := tk } := by
  have ne : ∀ {p q : Addr × Obj}, p ∈ all → q ∈ all → p.2.cls ≠ q.2.cls → p.1 ≠ q.1 := fun hp hq hc e => by
    have a1 := (N _ hp).1
    rw [e, (N _ hq).1] at a1
    exact hc (congrArg Obj.cls (Option.some.inj a1.symm))
  have hx : ((TL, listOf (vs ++ [Value.ref z]).toArray n) : Addr × Obj) ∈ all := by rw [← List.push_toArray]; exact h1
  rw [mK_upd] at F
  have sb : ∀ q ∈ (z, instObj 198 dz) :: (dz, thD w k1 k2 k3 k4 t1 t2 o.kd (o.val t)) :: nx, q ∈ all := List.forall_mem_cons.mpr ⟨h2, List.forall_mem_cons.mpr ⟨h3, hs⟩⟩
  refine ⟨h', tk, _, (TL, listOf (vs ++ [Value.ref z]).toArray n) :: (z, instObj 198 dz) :: (dz, thD w k1 k2 k3 k4 t1 t2 o.kd (o.val t)) :: nx, rfl, F, fun p hp => ?_, fun p hp q hq => ?_, (.mk x y _ n _ ((hth.sub fun q hq => .tail _ (.tail _ hq)).snoc ⟨dz, k1, k2, k3, k4, t1, t2, .head _, .tail _ (.head _)⟩) (hm.sub fun q hq => .tail _ (.tail _ hq)) (fun q hq => .tail _ (.tail _ (hl q hq))) ?_)⟩
  · rcases List.mem_cons.mp hp with rfl | hp
    · exact N _ hI
    · rcases List.mem_cons.mp hp with rfl | hp
      · exact N _ hx
      · exact N _ (sb _ hp)
  · rcases List.mem_singleton.mp hq with rfl
    rcases List.mem_cons.mp hp with rfl | hp
    · exact Ne.symm hIT
    · rcases List.mem_cons.mp hp with rfl | hp
      · exact ne h2 hI (by rw [hit]; exact fun e => by cases e)
      · rcases List.mem_cons.mp hp with rfl | hp
        · exact ne h3 hI (by rw [hit]; exact fun e => absurd (Value.type.inj e) (by decide))
        · exact hIn p hp
  · exact List.forall_mem_cons.mpr ⟨ne h2 h1 cI, List.forall_mem_cons.mpr ⟨ne h3 h1 cD, hTL⟩⟩
/-- what the word does with such operands -/
inductive Does (c : Wd) : List Op → Res → Prop where
  | u0 : c.un = true → Does c [] (.bad stackunderflow)
  | b1 {o : Op} : c.un = false → Does c [o] (.bad stackunderflow)
  | u3 {p q o : Op} : c.un = true → OpOk o → Does c [p, q, o] (machF1 c o)
  | b4 {p q o1 o2 : Op} : c.un = false → OpOk o1 → OpOk o2 → Does c [p, q, o1, o2] (machF2 c o1 o2)
theorem Does.nm {c : Wd} {os : List Op} {r : Res} {b : Array UInt8} (h : Does c os r) (hb : r = .bad b) : Nm b := by
  cases h with
  | u0 _ => cases hb; exact nmS rfl
  | b1 _ => cases hb; exact nmS rfl
  | u3 _ _ => exact nm1 hb
  | b4 _ _ _ => exact nm2 hb
inductive RPg (w : World) (TL : Addr) (news : Led) (os : List Op) (r : Res) : Led → Prop where
  | mk (p q : Op) (rest : List Op) (o : Op) (z1 z2 : Addr) (ta tb : Tok) (z dz : Addr) (k1 k2 k3 k4 t1 t2 u : Tok) (n : Nat) (e1 : os = p :: q :: rest) (e2 : r = .ok o) (h1 : ThingAt w news z1 p.kd (p.val ta)) (h2 : ThingAt w news z2 q.kd (q.val tb)) : RPg w TL news os r ((TL, listOf #[.ref z1, .ref z2, .ref z] n) :: (z, instObj 198 dz) :: (dz, thD w k1 k2 k3 k4 t1 t2 o.kd (o.val u)) :: news)
theorem RPr.gen {w : World} {TL z1 z2 : Addr} {news l : Led} {r : Res} {p q : Op} {rest : List Op} {ta tb : Tok} (h1 : ThingAt w news z1 p.kd (p.val ta)) (h2 : ThingAt w news z2 q.kd (q.val tb)) (h : RPr w TL z1 z2 news r l) : RPg w TL news (p :: q :: rest) r l := by
  obtain ⟨o, z, dz, k1, k2, k3, k4, t1, t2, u, n, hr⟩ := h
  exact .mk p q rest o z1 z2 ta tb z dz k1 k2 k3 k4 t1 t2 u n rfl hr h1 h2

theorem realOk {m : Int} {o : Op} (h : realF m = .ok o) : OpOk o := by
  unfold realF at h
  split at h
  · cases h; assumption
  · cases h
theorem wholeOk {m : Int} {o : Op} (h : wholeF m = .ok o) : OpOk o := by
  unfold wholeF at h
  split at h
  · cases h; assumption
  · exact realOk h
theorem negOk {a o : Op} (ha : OpOk a) (h : negF a = .ok o) : OpOk o := by
  cases a with
  | int i => exact wholeOk h
  | real r => simp only [negF] at h; cases h; obtain ⟨h1, h2⟩ := (show Tn r from ha); exact (show Tn (-r) from ⟨by omega, by omega⟩)
  | bool b => simp only [negF] at h; cases h; exact (show Tn (-(0 : Int)) from ⟨by decide, by decide⟩)
theorem idivOk {x y : Int} {o : Op} (h : idivF x y = .ok o) : OpOk o := by
  unfold idivF at h
  split at h
  · cases h
  · dsimp only at h
    generalize (if x < 0 ↔ y < 0 then (absI x).fdiv (absI y) else -(absI x).fdiv (absI y)) = f at h
    by_cases hq : fitsI f
    · rw [if_pos hq] at h; cases h; exact hq
    · rw [if_neg hq] at h; cases h
theorem modOk {x y : Int} {o : Op} (hy : fitsI y) (h : modF x y = .ok o) : OpOk o := by
  unfold modF at h
  split at h
  · cases h
  · rename_i h0
    have h1 := Int.fmod_nonneg_of_pos (absI x) (absPos h0)
    have h2 := Int.fmod_lt_of_pos (absI x) (absPos h0)
    have h3 : absI y ≤ 2147483648 := by obtain ⟨a, b⟩ := hy; unfold absI; split <;> omega
    cases h
    show fitsI _
    split <;> (constructor <;> omega)
theorem truncOk {r : Int} {o : Op} (hr : Tn r) (h : truncF (.real r) = .ok o) : OpOk o := by
  simp only [truncF] at h
  cases h
  show Tn _
  have h0 := absNn r
  have h3 : absI r ≤ 1000000000000000000000 := by obtain ⟨a, b⟩ := hr; unfold absI; split <;> omega
  have h4 : 0 ≤ (absI r).fdiv 1000000 * 1000000 ∧ (absI r).fdiv 1000000 * 1000000 ≤ absI r := by
    rw [Int.fdiv_eq_ediv_of_nonneg _ (by decide)]
    constructor <;> omega
  split <;> (constructor <;> omega)
theorem numOk2 {f : Op → Op → Res} {o1 o2 o : Op} (hf : f o1 o2 = .ok o → OpOk o) (h : numF2 f o1 o2 = .ok o) : OpOk o := by
  unfold numF2 at h
  split at h
  · exact hf h
  · cases h
theorem numOk1 {f : Op → Res} {o1 o : Op} (hf : f o1 = .ok o → OpOk o) (h : numF1 f o1 = .ok o) : OpOk o := by
  unfold numF1 at h
  split at h
  · exact hf h
  · cases h
theorem intOk {f : Int → Int → Res} {o1 o2 o : Op} (hf : ∀ x y, o2 = .int y → f x y = .ok o → OpOk o) (h : intF2 f o1 o2 = .ok o) : OpOk o := by
  cases o1 <;> cases o2 <;> first | exact hf _ _ rfl h | cases h
theorem bOk {b : Bool} {o : Op} (h : Res.ok (.bool b) = .ok o) : OpOk o := by cases h; trivial
theorem ok2 {c : Wd} {o1 o2 o : Op} (h1 : OpOk o1) (h2 : OpOk o2) (h : machF2 c o1 o2 = .ok o) : OpOk o := by
  cases c
  case add => exact numOk2 (fun h => by cases o1 <;> cases o2 <;> simp only [addF] at h <;> first | exact wholeOk h | exact realOk h) h
  case sub => exact numOk2 (fun h => by cases o1 <;> cases o2 <;> simp only [subF] at h <;> first | exact wholeOk h | exact realOk h) h
  case mul => exact numOk2 (fun h => by cases o1 <;> cases o2 <;> simp only [mulF] at h <;> first | exact wholeOk h | exact realOk h) h
  case div => exact numOk2 (fun h => by unfold quotF at h; split at h <;> first | exact realOk h | (cases h; done)) h
  case idiv => exact intOk (fun x y _ h => idivOk h) h
  case mod => exact intOk (fun x y e h => modOk (by subst e; exact h2) h) h
  all_goals first
    | exact numOk2 (f := fun a b => .ok (.bool (lessB a b))) bOk h
    | exact numOk2 (f := fun a b => .ok (.bool (lessB b a))) bOk h
    | exact numOk2 (f := fun a b => .ok (.bool (!lessB a b))) bOk h
    | exact numOk2 (f := fun a b => .ok (.bool (!lessB b a))) bOk h
    | exact bOk h
    | (cases h; done)
theorem ok1 {c : Wd} {o1 o : Op} (h1 : OpOk o1) (h : machF1 c o1 = .ok o) : OpOk o := by
  cases c
  case neg => exact numOk1 (negOk h1) h
  case abs => exact numOk1 (fun h => by unfold absF at h; split at h <;> first | exact negOk h1 h | (cases h; exact h1)) h
  case ceiling => exact numOk1 (fun h => by cases o1 <;> simp only [ceilF] at h <;> first | exact realOk h | (cases h; exact h1)) h
  case floor => exact numOk1 (fun h => by cases o1 <;> simp only [floorF] at h <;> first | exact realOk h | (cases h; exact h1)) h
  case round => exact numOk1 (fun h => by cases o1 <;> simp only [roundF] at h <;> first | exact realOk h | (cases h; exact h1)) h
  case truncate => exact numOk1 (fun h => by cases o1 <;> first | exact truncOk h1 h | (simp only [truncF] at h; cases h; exact h1)) h
  all_goals (cases h; done)
theorem dueM1 {c : Wd} {o : Op} {r : Res} (hc : c.un = true) (h : numF1 (loneF c) o = r) : machF1 c o = r := by cases c <;> first | exact absurd hc (by decide) | exact h
theorem okBad {r : Res} {o : Op} {b : Array UInt8} (h : r = .ok o) (h' : r = .bad b) : False := by rw [h] at h'; cases h'
theorem okOk {r : Res} {o o' : Op} (h : r = .ok o) (h' : r = .ok o') : o' = o := by rw [h] at h'; cases h'; rfl
theorem badBad {r : Res} {b b' : Array UInt8} (h : r = .bad b) (h' : r = .bad b') : b' = b := by rw [h] at h'; cases h'; rfl
/-- three operands as the data of a list of pairs -/
def d3 (a b c : Op) : PyData := .list [.tuple [.str a.kd, a.dat], .tuple [.str b.kd, b.dat], .tuple [.str c.kd, c.dat]]
theorem log200 {i : Int} (h : Tn i) : i.natAbs.log2 < 200 := by obtain ⟨a, b⟩ := h; exact big_log ⟨by omega, by omega⟩
theorem datLog {o : Op} (h : OpOk o) : ∀ i, o.dat = .int i → i.natAbs.log2 < 200 := by
  intro i e
  cases o with
  | int j => cases e; obtain ⟨a, b⟩ := (show fitsI i from h); exact big_log ⟨by omega, by omega⟩
  | real j => cases e; exact log200 h
  | bool b => cases e
theorem datShow {o : Op} (h : OpOk o) : (PyData.tuple [.str o.kd, o.dat]).showable = true ∧ (PyData.tuple [.str o.kd, o.dat]).intsShort 1921 = true ∧ (PyData.tuple [.str o.kd, o.dat]).weight ≤ 300 := by
  have hk : o.kd.cps.size ≤ 10 := by cases o <;> (simp only [Op.kd]; decide)
  cases o with
  | int j =>
    have h1 := datLog h j rfl
    refine ⟨?_, ?_, ?_⟩
    · simp only [Op.dat, PyData.showable, PyData.showableAll, Bool.and_true, Bool.true_and, decide_eq_true_eq]; omega
    · simp only [Op.dat, PyData.intsShort, PyData.intsShortAll, Bool.and_true, Bool.true_and, decide_eq_true_eq]; exact int_text_len_1921 (by omega)
    · simp only [Op.dat, PyData.weight, PyData.weightAll]; split <;> omega
  | real j =>
    have h1 := datLog h j rfl
    refine ⟨?_, ?_, ?_⟩
    · simp only [Op.dat, PyData.showable, PyData.showableAll, Bool.and_true, Bool.true_and, decide_eq_true_eq]; omega
    · simp only [Op.dat, PyData.intsShort, PyData.intsShortAll, Bool.and_true, Bool.true_and, decide_eq_true_eq]; exact int_text_len_1921 (by omega)
    · simp only [Op.dat, PyData.weight, PyData.weightAll]; split <;> omega
  | bool b =>
    refine ⟨rfl, rfl, ?_⟩
    simp only [Op.dat, PyData.weight, PyData.weightAll]; omega
theorem repr3 {prog : Program} {w : World} {A : Around} {E : Value → Shared → Prop} {s : Shared} {h₀ : Heap} {L : Addr} {m : Str → Option Value} {news : Led} {R P1 P2 P3 : Addr} {n : Nat} {a b c : Op} {t1 t2 t3 t4 t5 t6 : Tok} {Q : Value → Shared → Prop}
    (hg : A.guards = some []) (hu : A.units + 8 < cLine) (F : Fr h₀ L s.heap m) (N : News h₀ L s.heap news) (hR : (R, listOf #[.ref P1, .ref P2, .ref P3] n) ∈ news) (h1 : (P1, tupO a t1 t2) ∈ news) (h2 : (P2, tupO b t3 t4) ∈ news) (h3 : (P3, tupO c t5 t6) ∈ news)
    (ha : OpOk a) (hb : OpOk b) (hc : OpOk c) (hQ : ∀ h' u tk, Fr h₀ L h' m → News h₀ L h' news → Q (.str (d3 a b c).shown u) { s with heap := h', toks := tk }) : wpAny (model prog w) A (call (.builtin "repr") [.ref R]) Q E s := by
  have r : ReadsVia h₀ news (.ref R) (d3 a b c) := ReadsVia.lst (vs := [_, _, _]) hR (.cons (tup_reads h1) (.cons (tup_reads h2) (.cons (tup_reads h3) .nil)))
  obtain ⟨a1, a2, a3⟩ := datShow ha
  obtain ⟨b1, b2, b3⟩ := datShow hb
  obtain ⟨c1, c2, c3⟩ := datShow hc
  have lay : (d3 a b c).canLay0 = true := by
    have := dat_ok a; have := dat_ok b; have := dat_ok c
    simp only [d3, PyData.canLay0, PyData.canLayAll0, Bool.and_true] at *
    simp only [*, Bool.and_true]
  have sh : (d3 a b c).showable = true := by
    simp only [d3, PyData.showable, PyData.showableAll, Bool.and_true] at *
    simp only [*, Bool.and_true]
  have ish : (d3 a b c).intsShort 1921 = true := by
    simp only [d3, PyData.intsShort, PyData.intsShortAll, Bool.and_true] at *
    simp only [*, Bool.and_true]
  have hw : (d3 a b c).weight ≤ 1000 := by
    simp only [d3, PyData.weight, PyData.weightAll] at *
    omega
  have hl := PyData.shown_le 1921 (by decide) _ (PyData.leavesShort_of_canLay0 1921 _ lay ish)
  refine repr_viaB 4 r F N sh (PyData.hasDict_of_canLay _ lay) rfl hg ?_ (by omega) hQ ?_
  · cases a <;> cases b <;> cases c <;> simp [d3, PyData.depth, PyData.depthAll, Op.dat]
  · rw [sizeLine_eq]
    have : (1921 + 2) * (d3 a b c).weight ≤ (1921 + 2) * 1000 := Nat.mul_le_mul_left _ hw
    omega
theorem reprS {prog : Program} {w : World} {A : Around} {E : Value → Shared → Prop} {s : Shared} {b : Array UInt8} {t : Tok} {Q : Value → Shared → Prop} (hb : Nm b) (h : Q (.str (PySem.reprText (txt b)) s.toks) { s with toks := s.toks + 1 }) : wpAny (model prog w) A (call (.builtin "repr") [.str (txt b) t]) Q E s :=
  P.repr_of_str h (by rw [sizeLine_eq]; rcases hb with rfl | rfl | rfl | rfl <;> decide +kernel)
theorem neSame {prog : Program} {w : World} {A : Around} {E : Value → Shared → Prop} {s : Shared} {x : Str} {t u : Tok} {Q : Value → Shared → Prop} (h : Q (.bool false) s) : wpAny (model prog w) A (compareOp .NotEq (.str x t) (.str x u)) Q E s :=
  ne_str (by rw [show (x != x) = false from by simp]; exact h)
theorem off1 {I C D TP : Addr} {o : Obj} {rest : Led} (off : LCg.Off3 I C D rest) (h : (TP, o) ∈ rest) : @Ne Nat I TP := Ne.symm (off.mem _ h).1
theorem off2 {I C D TP : Addr} {o : Obj} {rest : Led} (off : LCg.Off3 I C D rest) (h : (TP, o) ∈ rest) : @Ne Nat C TP := Ne.symm (off.mem _ h).2.1
theorem off3 {I C D TP : Addr} {o : Obj} {rest : Led} (off : LCg.Off3 I C D rest) (h : (TP, o) ∈ rest) : @Ne Nat D TP := Ne.symm (off.mem _ h).2.2

def LawJ (TP DS CE : Addr) (ys : List Value) (oc : Obj) (_ : Str → Option Value) (nx : Led) : Prop := ∃ (i : Int) (ti : Tok) (n : Nat), 0 ≤ i ∧ nx = [(TP, listOf #[.ref DS, .int i ti] n), (DS, LCg.lst ys), (CE, oc)]
section
variable {prog : Program} {w : World} {A : Around} {E : Value → Shared → Prop} {s : Shared} {env : Env} {h₀ : Heap} {x : Str} {body : List Stmt} {Q : Flow → Shared → Prop}
theorem range_turns {I : Addr} {a : Int} {n : Nat} (J : (Str → Option Value) → Led → Prop)
    (turn : ∀ (k : Int) t m₁ nx it h tk, J m₁ nx → it.cls = .type "range_iterator" → Fr h₀ env.locals h (fun y => if y = x then some (.int k t) else m₁ y) → News h₀ env.locals h ((I, it) :: nx) →
      wpAny (model prog w) A (execs body env) (UnrPost h₀ env.locals { s with heap := h, toks := tk } I it J Q) E { s with heap := h, toks := tk })
    (done : ∀ m₁ nx h tk, J m₁ nx → Fr h₀ env.locals h m₁ → News h₀ env.locals h nx → Q .next { s with heap := h, toks := tk }) :
    ∀ k i m news, J m news → RangeRest prog w A E h₀ env x body Q s I a n k i m news := by
  intro k
  induction k with
  | zero => exact fun i m news hJ => RangeRest.zero fun h tk F N => done m news h tk hJ F N
  | succ k ih =>
    intro i m news hJ
    refine RangeRest.succ fun t h tk F N => wpAny_mono (turn _ t m news _ h tk hJ rfl F N) (fun f s₂ p => ?_) fun _ _ e => e
    have up : UnrEnd h₀ env.locals { s with heap := h, toks := tk } I (itR (a + ((i + 1 : Nat) : Int)) ((n : Int) - ((i + 1 : Nat) : Int))) J s₂ → UnrEnd h₀ env.locals { s with heap := h, toks := tk } I (itR (a + ((i + 1 : Nat) : Int)) ((n : Int) - ((i + 1 : Nat) : Int))) (RangeRest prog w A E h₀ env x body Q s I a n k (i + 1)) s₂ := by
      rintro ⟨h', tk', m', news', e, F', N', ho, r⟩
      exact ⟨h', tk', m', news', e, F', N', ho, ih (i + 1) m' news' r⟩
    cases f with
    | ret v => exact p
    | brk => exact p
    | next => exact up p
    | cont => exact up p
theorem law_loop {r TP DS CE : Addr} {a₀ b₀ : Int} {t₀ u₀ v₀ : Tok} {n n0 : Nat} {m₀ : Str → Option Value} {ys : List Value} {oc : Obj} {D1 : Addr × Obj} {i0 : Int} {ti0 : Tok}
    (hh : A.handled = none) (hr : IsRange s.heap r a₀ b₀ 1 t₀ u₀ v₀) (hsmall : Builtin.Range.small a₀ b₀ 1 = true) (hn : Builtin.Range.rangeSize a₀ b₀ 1 = (n : Int)) (F : Fr h₀ env.locals s.heap m₀)
    (N : News h₀ env.locals s.heap ((TP, listOf #[.ref DS, .int i0 ti0] n0) :: (DS, LCg.lst ys) :: D1 :: (CE, oc) :: [])) (h0 : 0 ≤ i0)
    (turn : ∀ I : Addr, (@LT.lt Nat _ TP I ∧ @LT.lt Nat _ DS I ∧ @LT.lt Nat _ CE I) → ∀ (k : Int) (t : Tok) (m₁ : Str → Option Value) (it : Obj) (i : Int) (ti : Tok) (nT : Nat) (h : Heap) (tk : Nat), it.cls = .type "range_iterator" → 0 ≤ i → Fr h₀ env.locals h (fun y => if y = x then some (.int k t) else m₁ y) →
      News h₀ env.locals h [(I, it), (TP, listOf #[.ref DS, .int i ti] nT), (DS, LCg.lst ys), (CE, oc)] →
      wpAny (model prog w) A (execs body env) (UnrPost h₀ env.locals { s with heap := h, toks := tk } I it (LawJ TP DS CE ys oc) Q) E { s with heap := h, toks := tk })
    (done : ∀ m₁ h tk, Fr h₀ env.locals h m₁ → Q .next { s with heap := h, toks := tk }) :
    wpAny (model prog w) A (pyIter (.ref r)) (fun it s₂ => LoopAtV prog w A h₀ env x body Q E it s₂) E s := by
  have N3 : News h₀ env.locals s.heap [(TP, listOf #[.ref DS, .int i0 ti0] n0), (DS, LCg.lst ys), (CE, oc)] := fun q hq => N q (by
    rcases List.mem_cons.mp hq with rfl | hq
    · exact .head _
    · rcases List.mem_cons.mp hq with rfl | hq
      · exact .tail _ (.head _)
      · rcases List.mem_cons.mp hq with rfl | hq
        · exact .tail _ (.tail _ (.tail _ (.head _)))
        · cases hq)
  refine iter_rangeUnr hh hr hsmall hn F N3 fun I hI => ?_
  refine range_turns (LawJ TP DS CE ys oc) ?_ (fun m₁ nx h tk _ F' _ => done m₁ h tk F') n 0 _ _ ⟨i0, ti0, n0, h0, rfl⟩
  rintro k t m₁ nx it h tk ⟨i, ti, nT, hi, rfl⟩ hit F' N'
  exact turn I ⟨hI _ (.head _), hI _ (.tail _ (.head _)), hI _ (.tail _ (.tail _ (.head _)))⟩ k t m₁ it i ti nT h tk hit hi F' N'
theorem lawEnd {L TP DS CE I : Addr} {ys : List Value} {oc it : Obj} {s₁ : Shared} {h' : Heap} {tk : Nat} {m' : Str → Option Value} {led : Led} {i : Int} {ti : Tok} {n : Nat} (hlt : @LT.lt Nat _ TP I ∧ @LT.lt Nat _ DS I ∧ @LT.lt Nat _ CE I) (F : Fr h₀ L h' m') (N : News h₀ L h' led)
    (hI : (I, it) ∈ led) (h1 : (TP, listOf #[.ref DS, .int i ti] n) ∈ led) (h2 : (DS, LCg.lst ys) ∈ led) (h3 : (CE, oc) ∈ led) (h0 : 0 ≤ i) : UnrEnd h₀ L s₁ I it (LawJ TP DS CE ys oc) { s₁ with heap := h', toks := tk } := by
  refine UnrEnd.intro F N [(TP, listOf #[.ref DS, .int i ti] n), (DS, LCg.lst ys), (CE, oc)] (fun p hp => ?_) (fun p hp => ?_) ⟨i, ti, n, h0, rfl⟩
  · rcases List.mem_cons.mp hp with rfl | hp
    · exact hI
    · rcases List.mem_cons.mp hp with rfl | hp
      · exact h1
      · rcases List.mem_cons.mp hp with rfl | hp
        · exact h2
        · rcases List.mem_cons.mp hp with rfl | hp
          · exact h3
          · cases hp
  · rcases List.mem_cons.mp hp with rfl | hp
    · exact Nat.ne_of_lt hlt.1
    · rcases List.mem_cons.mp hp with rfl | hp
      · exact Nat.ne_of_lt hlt.2.1
      · rcases List.mem_cons.mp hp with rfl | hp
        · exact Nat.ne_of_lt hlt.2.2
        · cases hp
end
theorem all0 {α : Type} {P : α → Prop} : ∀ p ∈ ([] : List α), P p := fun _ h => nomatch h
theorem allC {α : Type} {P : α → Prop} {a : α} {l : List α} (h : P a) (hl : ∀ p ∈ l, P p) : ∀ p ∈ a :: l, P p := List.forall_mem_cons.mpr ⟨h, hl⟩
theorem item_word {prog : Program} {w : World} {A : Around} {E : Value → Shared → Prop} {s : Shared} {value slice : Expr} {t : Addr} {j : Int} {u : Tok} {Q : Value → Shared → Prop} {l : List Value} (ht : IsTup s.heap t l.toArray) (hl : l.length = 18) (ha : ∀ i, i < 18 → ∃ (c : Wd) (x : Tok), l[i]? = some (.str c.str x)) (h0 : 0 ≤ j) (hj : j < 18) (h : ∀ (c : Wd) x, Q (.str c.str x) s)
    (hs : subscripted slice false (.ref t) (.int j u) = operate [.ref t, .int j u] (getItem (.ref t) (.int j u)) := by with_unfolding_all rfl) :
    wpAny (model prog w) A (subscriptTail value slice (.ref t) (.int j u)) Q E s := by
  obtain ⟨c, x, e⟩ := ha j.toNat (by omega)
  have hn : ¬ j < 0 := by omega
  refine item_tupleT ht (by omega) (by omega) (j := j.toNat) ?_ e (h c x) hs
  simp only [seqIndex?, if_neg hn]
  rw [if_pos (by simp only [Bool.and_eq_true, decide_eq_true_eq]; exact ⟨h0, by omega⟩)]
abbrev lawWords : List Value := [.str (Str.ofString "add") 1246, .str (Str.ofString "sub") 1247, .str (Str.ofString "mul") 1248, .str (Str.ofString "div") 1249, .str (Str.ofString "idiv") 1250, .str (Str.ofString "mod") 1251, .str (Str.ofString "neg") 1252, .str (Str.ofString "abs") 1253, .str (Str.ofString "ceiling") 1254, .str (Str.ofString "floor") 1255, .str (Str.ofString "round") 1256, .str (Str.ofString "truncate") 1257, .str (Str.ofString "eq") 1258, .str (Str.ofString "ne") 1259, .str (Str.ofString "lt") 1260, .str (Str.ofString "gt") 1261, .str (Str.ofString "le") 1262, .str (Str.ofString "ge") 1263]
theorem lawWords_ok : ∀ i, i < 18 → ∃ (c : Wd) (x : Tok), lawWords[i]? = some (.str c.str x) := by
  intro i hi
  match i, hi with
  | 0, _ => exact ⟨.add, _, rfl⟩
  | 1, _ => exact ⟨.sub, _, rfl⟩
  | 2, _ => exact ⟨.mul, _, rfl⟩
  | 3, _ => exact ⟨.div, _, rfl⟩
  | 4, _ => exact ⟨.idiv, _, rfl⟩
  | 5, _ => exact ⟨.mod, _, rfl⟩
  | 6, _ => exact ⟨.neg, _, rfl⟩
  | 7, _ => exact ⟨.abs, _, rfl⟩
  | 8, _ => exact ⟨.ceiling, _, rfl⟩
  | 9, _ => exact ⟨.floor, _, rfl⟩
  | 10, _ => exact ⟨.round, _, rfl⟩
  | 11, _ => exact ⟨.truncate, _, rfl⟩
  | 12, _ => exact ⟨.eq, _, rfl⟩
  | 13, _ => exact ⟨.ne, _, rfl⟩
  | 14, _ => exact ⟨.lt, _, rfl⟩
  | 15, _ => exact ⟨.gt, _, rfl⟩
  | 16, _ => exact ⟨.le, _, rfl⟩
  | 17, _ => exact ⟨.ge, _, rfl⟩
  | n + 18, h => exact absurd h (by omega)
theorem eq8 {prog : Program} {w : World} {A : Around} {E : Value → Shared → Prop} {s : Shared} {v : Int} {t u : Tok} {Q : Value → Shared → Prop} (h : Q (.bool true) s) (h' : Q (.bool false) s) : wpAny (model prog w) A (compareOp .Eq (.int v t) (.int 8 u)) Q E s := by
  refine eq_int ?_
  by_cases e : v = 8
  · rw [show (v == 8) = true by simp [e]]; exact h
  · rw [show (v == 8) = false by simp [e]]; exact h'
theorem un_cases (c : Wd) : c.un = true ∨ c.un = false := by cases c.un <;> simp

theorem lenY {f : Int → Int} {l : List Int} {vs : List Value} {c : Nat} (hI : IntsAre vs (List.map f l)) (hC : l.length = min 60 c) : vs.length ≤ 60 := by rw [hI.length, List.length_map, hC]; exact Nat.min_le_left _ _
theorem CompEnd_opd {h₀ : Heap} {L I C D T TP : Addr} {m : Str → Option Value} {s₁ : Shared} {oI oC oD oT oP oQ : Obj} {S : Led → Prop} {rest : Value → Led → Prop} {y : Value} {h' : Heap} {tk : Nat} {r2 rest0 : Led} {R : Prop}
    (F : Fr h₀ L h' m) (N : News h₀ L h' ((T, oT) :: (TP, oP) :: (I, oI) :: (C, oC) :: (D, oD) :: r2)) (off : LCg.Off3 I C D rest0) (hTP : (TP, oQ) ∈ rest0) (hsub : ∀ p ∈ r2, p ∈ rest0) (lt : @LT.lt Nat _ TP T ∧ @LT.lt Nat _ I T ∧ @LT.lt Nat _ C T ∧ @LT.lt Nat _ D T ∧ R) (hS : S ((T, oT) :: (TP, oP) :: r2)) (r : rest y ((T, oT) :: (TP, oP) :: r2)) :
    LCg.CompEnd h₀ L m s₁ I oI C oC D oD S rest y { s₁ with heap := h', toks := tk } :=
  LCg.CompEnd.intro F N ((T, oT) :: (TP, oP) :: r2) (allC (.tail _ (.tail _ (.head _))) (allC (.tail _ (.tail _ (.tail _ (.head _)))) (allC (.tail _ (.tail _ (.tail _ (.tail _ (.head _))))) (allC (.head _) (allC (.tail _ (.head _)) (fun q hq => .tail _ (.tail _ (.tail _ (.tail _ (.tail _ hq))))))))))
    (LCg.Off3.of (allC ⟨Nat.ne_of_gt lt.2.1, Nat.ne_of_gt lt.2.2.1, Nat.ne_of_gt lt.2.2.2.1⟩ (allC (show _ from (by exact off.mem (TP, oQ) hTP)) fun p hp => off.mem p (hsub p hp)))) hS r

section


section

variable {w : World} {p : Program} {lo : List Str} {mean : ExcName → Option Value} {mg mb : Str → Option Value} {news : Led}
  {dp un : Nat} {gd : Option (List Code)} {cn : Str} {cs : Scope} {a : Addr} {ccd : Value} {cl : List (Str × Addr)} {outer : List Env} {A₀ : Around} {base h₀ : Heap} {L : Addr} {m : Str → Option Value} {s : Shared} {Q E : Value → Shared → Prop}
variable (B : Below A₀ base outer h₀) (F : Fr h₀ L s.heap m) (X : (Kp w.params).In h₀) (T : Top p lo mean mg mb h₀) (hk : cs.kind = .function)
include B F X T hk

section
theorem c_cr {x : Int} {t : Tok} (hd : dp + 5 < recursionLimit) (hu : un + 50 < cLine) (N : News h₀ L s.heap (news))
    (ret : inR x → ∀ h' tk', Fr h₀ L h' m → News h₀ L h' news → Q (.int x t) { s with heap := h', toks := tk' })
    (exc0 : ¬ inR x → Exc w base h₀ L m (envX cn cs L a ccd cl :: outer) s E limitcheck (news))
    : wpAny (model Pg w) (ktrTop dp un gd cn cs L a ccd cl outer) (call (.ref 75) [.int x t]) Q E s := wit (by exact Wit.get : Wit (by
  k_with "ev" => (first
    | (apply Ev.loc; (k_asm); (rfl); (rfl); (rfl); (rfl))
    | exact Ev.int
    | exact Ev.str
    | (apply Ev.sub0; (k_extra "ev"); (k_asm); (k_mem))
    | (apply Ev.sub1; (k_extra "ev"); (k_asm); (k_mem))
    | (apply Ev.glo; (k_asm); (k_asm); (k_asm); (k_is); (rfl); (rfl); (rfl))
    | (apply Ev.att; (k_asm); (k_asm); (k_extra "ev"); (k_inst); (k_is); (k_is); (k_is); (k_is); (k_get); (k_handed))
    | fail)
  k_with "evl" => (first | exact EvL.nil | (apply EvL.cons; (k_extra "ev"); (k_extra "evl")) | fail)
  k_with "my eval Call" => (k_here; (with_reducible show wpAny _ _ (eval (Expr.Call (Expr.Name _ _) (_ :: _) [] _) _) _ _ _); k_dflt (apply call_E; (k_asm); (k_asm); (k_asm); (k_is); (rfl); (rfl); (rfl); (k_is); (k_extra "ev"); (k_extra "evl")); k_whole)
  k_with "my eval Attribute Name" => (k_here; (fail_if_success (with_reducible show wpAny _ _ (eval (Expr.Attribute _ (PySem.Str.ofString "told") _) _) _ _ _)); k_dflt (apply att_E; (k_asm); (k_asm); (k_extra "ev"); (k_inst); (k_is); (k_is); (k_is); (k_is); (k_get); (k_handed)); k_whole)
  k_with "my isTrue Compare" => (k_here; (with_reducible show wpAny _ _ (PySem.isTrue (Expr.Compare _ [_] [_] _) _ _) _ _ _); k_dflt (first
    | ((with_reducible show wpAny _ _ (PySem.isTrue (Expr.Compare _ [CmpOp.Eq] _ _) _ _) _ _ _); apply isT_eqs; (k_extra "ev"); (k_extra "ev"); (rotate_left; rfl); k_whole)
    | ((with_reducible show wpAny _ _ (PySem.isTrue (Expr.Compare _ [CmpOp.Lt] _ _) _ _) _ _ _); apply isT_lt; (k_extra "ev"); (k_extra "ev"); (rotate_left; rfl); k_whole)
    | (apply isT_E; (k_extra "ev"); (k_extra "ev"); (rotate_left; rfl); k_whole)))
  k_with "my eval Compare" => (k_here; (with_reducible show wpAny _ _ (eval (Expr.Compare _ [_] [_] _) _) _ _ _); k_dflt (apply cmp_E; (k_extra "ev"); (k_extra "ev"); (rotate_left; rfl)); k_whole)
  k_with "my eval BinOp" => (k_here; k_dflt (apply bin_E; (k_extra "ev"); (k_extra "ev")); k_whole)
  k_with "my eval Tuple" => (k_here; k_dflt (apply tup_E; (k_asm); (k_asm); (k_extra "evl"); (first | size_fits | exact Nat.le_of_ble_eq_true rfl)); k_whole; (try dsimp only); intro D'_k h'_k F'_k N'_k l1'_k;  (try k_lt l1'_k); (try k_sweep))
  k_with "my assign Tuple" => (k_here; (with_reducible show wpAny _ _ (assign (Expr.Tuple [Expr.Name _ _, Expr.Name _ _] _ _) _ _) _ _ _); k_dflt (apply unpack2; (k_asm); (k_asm); (k_mem); (first | rfl | assumption); (rfl); (rfl); (rfl)); k_whole; (try dsimp only); intro h'_k F'_k N'_k; (try k_sweep))
  k_with "my subscriptTail Name Constant ref int" => (k_here; k_dflt (refine' item_tn (by k_asm) (by k_mem) (by first | exact rfl | fail) (by decide) (by decide) (by first | exact rfl | fail) ?_ (by first | with_unfolding_all rfl | fail)))
  k_with "my storeName" => (k_here; k_dflt (refine' storeX_L (by k_asm) (by k_asm) ?_ (by rfl) (by rfl)); k_whole; (try dsimp only); intro h'_k F'_k N'_k; (try k_sweep))
  k_with "my subscriptTail Name" => (k_here; (with_reducible show wpAny _ _ (subscriptTail _ (Expr.Call _ _ _ _) (Value.ref _) (Value.int _ _)) _ _ _); (with_unfolding_all refine' item_litK (by is_list) (by decide) (by decide) (by rfl) ?_ (by first | with_unfolding_all rfl | fail)); k_whole)
  k_with "my k_room" => ((fail_if_success (k_extra "off2")); k_extra "room")
  k_with "my k_enter" => ((fail_if_success (k_extra "off2")); refine' code_defL (by k_asm) (by k_asm) (by k_asm) (by k_asm) (by k_asm) (by first | exact rfl | fail) (by first | exact rfl | fail) (by first | exact rfl | assumption | fail) (by k_is) (by k_is) (by first | k_room | fail) (by first | exact BindsTo.of_eq (binds := [(_, _)]) rfl | exact BindsTo.of_eq (binds := [(_, _), (_, _)]) rfl | exact BindsTo.of_eq (binds := [(_, _), (_, _), (_, _)]) rfl | exact BindsTo.of_eq rfl | exact binds_K (by k_in) rfl (by k_is) rfl rfl rfl | fail) (by first | exact locs rfl | fail) ?_ (by first | exact rfl | fail) (by first | exact rfl | fail) (by first | exact rfl | fail) (by first | decide | fail); k_whole; (try dsimp -zeta only); intro g'_k L'_k h'_k tk'_k FG'_k F'_k N'_k B'_k X'_k T'_k e'_k A'_k; (try k_lift B'_k); (try k_fold))
  k_with "my exec Raise some none" => ((fail_if_success (k_extra "off2")); k_here; refine Raise_ps rfl ?_)
  k_with "my RaisePs" => ((fail_if_success (k_extra "off2")); refine raisePs_at (by k_asm) (by k_asm) (by k_asm) ?_)
  k_with "my call ref" => ((fail_if_success (k_extra "off2")); k_here; (with_reducible show wpAny _ _ (call (Value.ref 52) [_]) _ _ _); k_dflt (refine' c_ps _ _ _ _ _ _ _ _ _ _ _ _ _ _ _ _ _ _ _ _ _ _ _ _ _ (by k_asm) (by k_asm) (by k_asm) (by k_asm) (by k_asm) (by first | exact rfl | assumption | fail) (by k_room) (by k_extra "units") ?_); intro e'_k t0'_k d'_k tk'_k h'_k tk2'_k F'_k N'_k l1_k l2_k; (try dsimp only); (try k_sweep))
  k_with "my leaving ref" => ((fail_if_success (k_extra "off2")); first
  | (refine' leave_first (by k_asm) (by k_asm) (by k_asm) (by assumption) (by assumption) ?_; intro h'_k R'_k k'_k; (try dsimp only))
  | (refine' leave_on (by k_asm) (by k_asm) (by k_asm) (by k_asm) ?_; intro h'_k R'_k k'_k; (try dsimp only)))
  k_with "my mul_fits" => ((fail_if_success (k_extra "off2")); refine' mulOk (by first | assumption | (k_extra "bnd") | fail) (by first | assumption | (k_extra "bnd") | fail))
  k_with "my binaryOp FloorDiv int int" => ((fail_if_success (k_extra "off2")); k_here; (with_reducible refine floordiv_int ?_ ?_ (Or.inl (divOk ?_))); (omega); rotate_left; (k_extra "bnd"))
  k_with "my subscriptTail Name Constant ref int" => ((fail_if_success (k_extra "off2")); k_here; k_dflt (refine' item_tn (by k_asm) (by k_mem) (by first | exact rfl | fail) (by first | decide | fail) (by first | decide | fail) (by first | exact rfl | fail) ?_ (by first | with_unfolding_all rfl | fail)))
  k_with "my k_handed" => ((fail_if_success (k_extra "off2")); exact handed_val _ _)
  k_with "my k_all" => ((fail_if_success (k_extra "off2")); assumption)
  k_with "my my_mem" => ((fail_if_success (k_extra "off2")); first | exact List.mem_cons_self | ktr_member | (refine List.mem_cons_of_mem _ ?_; walk_at "my_mem"))
  k_with "my compareOp NotIn str ref" => ((fail_if_success (k_extra "off2")); k_here; (with_reducible show wpAny _ _ (compareOp CmpOp.NotIn (Value.str _ _) (Value.ref _)) _ _ _); (with_unfolding_all refine' notin_tuple_strs (by first | exact News.isTup (by k_asm) (by k_mem) | exact kun_topT (by k_asm) (by k_asm) (by k_is) | fail) (by first | kde_strs | fail) ?_; k_whole))
  k_with "my compareOp Eq ref ref" => ((fail_if_success (k_extra "off2")); k_here; (with_reducible show wpAny _ _ (compareOp CmpOp.Eq (Value.ref _) (Value.ref _)) _ _ _); k_dflt (refine' PySem.P.eq_list_lengths (by first | exact News.get (by k_asm) (by k_mem) | fail) (by first | exact News.get (by k_asm) (by k_mem) | fail) (by first | rfl | fail) (by k_extra "units") ?_); (try k_sweep))
  k_with "my k_mem" => ((fail_if_success (k_extra "off2")); walk_at "my_mem")
  k_with "my k_sub" => ((fail_if_success (k_extra "off2")); intro q_k hq_k; (repeat (first | exact hq_k | (refine List.Mem.tail _ ?_))); done)
  k_with "my getAttr ref" => ((fail_if_success (k_extra "off2")); k_here; (with_reducible show wpAny _ _ (getAttr (Value.ref _) (PySem.Str.ofString "operands") _) _ _ _); k_dflt (refine' get_own (by k_asm) (by k_asm) (by k_inst) (by k_is) (by k_is) (by k_is) (by k_is) (by assumption) (by first | k_handed | fail) ?_; k_whole))
  k_with "my my_subP" => ((fail_if_success (k_extra "off2")); first | (walk_at "k_sub"; done) | (refine List.forall_mem_cons.mpr ⟨by k_mem, ?_⟩; walk_at "my_subP"))
  refine wpAny_call ?_
  k_dflt k_enter
  k_steps
  all_goals (first | exact exc0 (by omega) _ _ _ _ _ _ _ (by assumption) (by assumption) (by assumption) | exact ret (by omega) _ _ (by assumption) (by assumption))))


theorem c_realof {x : Int} {t : Tok} (hd : dp + 10 < recursionLimit) (hu : un + 100 < cLine) (N : News h₀ L s.heap (news))
    (hx : Big x)
    (ret : inR (x * 1000000) → ∀ t' h' tk', Fr h₀ L h' m → News h₀ L h' news → Q (.int (x * 1000000) t') { s with heap := h', toks := tk' })
    (exc0 : ¬ inR (x * 1000000) → Exc w base h₀ L m (envX cn cs L a ccd cl :: outer) s E limitcheck (news))
    : wpAny (model Pg w) (ktrTop dp un gd cn cs L a ccd cl outer) (call (.ref 82) [.int x t]) Q E s := wit (by exact Wit.get : Wit (by
  k_with "my call ref" => ((fail_if_success (k_extra "off3")); k_here; (with_reducible show wpAny _ _ (call (Value.ref 75) [Value.int _ _]) _ _ _); k_dflt (refine' c_cr (by k_asm) (by k_asm) (by k_asm) (by k_asm) (by first | exact rfl | assumption | fail) (by k_room) (by k_extra "units") (by k_asm)  ?_ ?_); intro hr'_k h'_k tk'_k F'_k N'_k; (try dsimp only); (try k_sweep); rotate_left; intro hb'_k g'_k e'_k d'_k tk'_k t'_k h'_k tk2'_k FG'_k R'_k k'_k; (try dsimp only); rotate_left)
  refine wpAny_call ?_
  k_dflt k_enter
  k_steps
  all_goals (first | exact exc0 (by assumption) _ _ _ _ _ _ _ (by assumption) (by assumption) (by assumption) | exact ret (by assumption) _ _ _ (by assumption) (by assumption))))


theorem c_iis {x : Int} {t : Tok} (hd : dp + 5 < recursionLimit) (hu : un + 50 < cLine) (N : News h₀ L s.heap (news))
    (ret : ∀ b h' tk', (b = true ↔ fitsI x) → Fr h₀ L h' m → News h₀ L h' news → Q (.bool b) { s with heap := h', toks := tk' })
    : wpAny (model Pg w) (ktrTop dp un gd cn cs L a ccd cl outer) (call (.ref 68) [.int x t]) Q E s := wit (by exact Wit.get : Wit (by
  k_with "my call ref" => ((fail_if_success (k_extra "off3")); k_here; (with_reducible show wpAny _ _ (call (Value.ref 82) [Value.int _ _]) _ _ _); k_dflt (refine' c_realof (by k_asm) (by k_asm) (by k_asm) (by k_asm) (by first | exact rfl | assumption | fail) (by k_room) (by k_extra "units") (by k_asm) (by first | assumption | (k_extra "bnd") | fail) ?_ ?_); intro hr'_k t'_k h'_k tk'_k F'_k N'_k; (try dsimp only); (try k_sweep); rotate_left; intro hb'_k g'_k e'_k d'_k tk'_k t'_k h'_k tk2'_k FG'_k R'_k k'_k; (try dsimp only); rotate_left)
  refine wpAny_call ?_
  k_dflt k_enter
  k_steps
  all_goals (first | exact ret _ _ _ (by simp; omega) (by assumption) (by assumption))))


theorem c_mil {a1 : Addr} {o : Op} {t1 t2 : Tok} (hd : dp + 5 < recursionLimit) (hu : un + 50 < cLine) (N : News h₀ L s.heap (news))
    (hm : (a1, tupO o t1 t2) ∈ news)
    (ho : o.num = true)
    (hs : Big o.mil)
    (ret : ∀ t' h' tk', Fr h₀ L h' m → News h₀ L h' news → Q (.int o.mil t') { s with heap := h', toks := tk' })
    : wpAny (model Pg w) (ktrTop dp un gd cn cs L a ccd cl outer) (call (.ref 89) [.ref a1]) Q E s := wit (by exact Wit.get : Wit (by
  k_with "my call ref" => ((fail_if_success (k_extra "off3")); k_here; (with_reducible show wpAny _ _ (call (Value.ref 68) [Value.int _ _]) _ _ _); k_dflt (refine' c_iis (by k_asm) (by k_asm) (by k_asm) (by k_asm) (by first | exact rfl | assumption | fail) (by k_room) (by k_extra "units") (by k_asm)  ?_); intro b'_k h'_k tk'_k hb'_k F'_k N'_k; (try dsimp only); (try k_sweep))
  cases o with
  | bool b => cases ho
  | int i =>
    dsimp only [tupO, Op.kd, Op.val, Op.mil] at hm ret hs
    refine wpAny_call ?_
    k_dflt k_enter
    k_steps
    all_goals exact ret _ _ _ (by assumption) (by assumption)
  | real r =>
    dsimp only [tupO, Op.kd, Op.val, Op.mil] at hm ret hs
    refine wpAny_call ?_
    k_dflt k_enter
    k_steps
    all_goals exact ret _ _ _ (by assumption) (by assumption)))


theorem c_milI {a1 : Addr} {i : Int} {t1 t2 : Tok} (hd : dp + 5 < recursionLimit) (hu : un + 50 < cLine) (N : News h₀ L s.heap news) (hm : (a1, ({ cls := .type "tuple", data := .seq #[.str (Str.ofString "integer") t1, .int i t2] } : Obj)) ∈ news) (hs : Big (i * 1000000))
    (ret : ∀ t' h' tk', Fr h₀ L h' m → News h₀ L h' news → Q (.int (i * 1000000) t') { s with heap := h', toks := tk' })
    : wpAny (model Pg w) (ktrTop dp un gd cn cs L a ccd cl outer) (call (.ref 89) [.ref a1]) Q E s := c_mil (o := .int i) B F X T hk hd hu N hm rfl hs ret
theorem c_milR {a1 : Addr} {i : Int} {t1 t2 : Tok} (hd : dp + 5 < recursionLimit) (hu : un + 50 < cLine) (N : News h₀ L s.heap news) (hm : (a1, ({ cls := .type "tuple", data := .seq #[.str (Str.ofString "real") t1, .int i t2] } : Obj)) ∈ news) (hs : Big i)
    (ret : ∀ t' h' tk', Fr h₀ L h' m → News h₀ L h' news → Q (.int i t') { s with heap := h', toks := tk' })
    : wpAny (model Pg w) (ktrTop dp un gd cn cs L a ccd cl outer) (call (.ref 89) [.ref a1]) Q E s := c_mil (o := .real i) B F X T hk hd hu N hm rfl hs ret


theorem c_divided {x y : Int} {t u : Tok} (hd : dp + 5 < recursionLimit) (hu : un + 50 < cLine) (N : News h₀ L s.heap (news))
    (hy : y ≠ 0)
    (hx : Sm x)
    (hz : Sm y)
    (ret : ∀ v t' h' tk', v = dividedF x y → Fr h₀ L h' m → News h₀ L h' news → Q (.int v t') { s with heap := h', toks := tk' })
    : wpAny (model Pg w) (ktrTop dp un gd cn cs L a ccd cl outer) (call (.ref 61) [.int x t, .int y u]) Q E s := wit (by exact Wit.get : Wit (by
  k_with "my call ref" => ((fail_if_success (k_extra "off3")); k_here; (with_reducible show wpAny _ _ (call (Value.ref 89) [Value.ref _]) _ _ _); k_dflt (refine' c_mil (by k_asm) (by k_asm) (by k_asm) (by k_asm) (by first | exact rfl | assumption | fail) (by k_room) (by k_extra "units") (by k_asm) (by k_mem) (by first | assumption | rfl | fail) (by first | assumption | (k_extra "bnd") | (constructor <;> (dsimp only [Op.mil]; omega)) | fail) ?_); intro t'_k h'_k tk'_k F'_k N'_k; (try dsimp only); (try k_sweep))
  k_with "my call ref" => ((fail_if_success (k_extra "off3")); k_here; (with_reducible show wpAny _ _ (call (Value.ref 89) [Value.ref _]) _ _ _); k_dflt (refine' c_milI (by k_asm) (by k_asm) (by k_asm) (by k_asm) (by first | exact rfl | assumption | fail) (by k_room) (by k_extra "units") (by k_asm) (by k_mem) (by first | assumption | (k_extra "bnd") | fail) ?_); intro t'_k h'_k tk'_k F'_k N'_k; (try dsimp only); (try k_sweep))
  k_with "my call ref" => ((fail_if_success (k_extra "off3")); k_here; (with_reducible show wpAny _ _ (call (Value.ref 89) [Value.ref _]) _ _ _); k_dflt (refine' c_milR (by k_asm) (by k_asm) (by k_asm) (by k_asm) (by first | exact rfl | assumption | fail) (by k_room) (by k_extra "units") (by k_asm) (by k_mem) (by first | assumption | (k_extra "bnd") | fail) ?_); intro t'_k h'_k tk'_k F'_k N'_k; (try dsimp only); (try k_sweep))
  refine wpAny_call ?_
  k_dflt k_enter
  k_steps
  all_goals (first | exact ret _ _ _ _ (dv1 (by assumption) rfl) (by assumption) (tl1 (by assumption)) | exact ret _ _ _ _ (dv2 (by assumption) rfl) (by assumption) (tl1 (by assumption)))))


theorem c_whole {x : Int} {t : Tok} {TL : Addr} {oT : Obj} (hd : dp + 15 < recursionLimit) (hu : un + 150 < cLine) (N : News h₀ L s.heap (news))
    (hx : Sm x)
    (hT : (TL, oT) ∈ news)
    (ret : ∀ o D t1' t2' h' tk', wholeF x = .ok o → D ≠ TL → Fr h₀ L h' m → News h₀ L h' ((D, tupO o t1' t2') :: news) → Q (.ref D) { s with heap := h', toks := tk' })
    (exc0 : ∀ b, wholeF x = .bad b → Exc w base h₀ L m (envX cn cs L a ccd cl :: outer) s E b (news))
    : wpAny (model Pg w) (ktrTop dp un gd cn cs L a ccd cl outer) (call (.ref 96) [.int x t]) Q E s := wit (by exact Wit.get : Wit (by
  k_with "my call ref" => ((fail_if_success (k_extra "off3")); k_here; (with_reducible show wpAny _ _ (call (Value.ref 61) [Value.int _ _, Value.int _ _]) _ _ _); k_dflt (refine' c_divided (by k_asm) (by k_asm) (by k_asm) (by k_asm) (by first | exact rfl | assumption | fail) (by k_room) (by k_extra "units") (by k_asm) (by first | assumption | omega | fail) (by first | assumption | (k_extra "bnd") | exact mulSm (by first | assumption | (k_extra "bnd")) (by first | assumption | (k_extra "bnd")) | fail) (by first | assumption | (k_extra "bnd") | exact mulSm (by first | assumption | (k_extra "bnd")) (by first | assumption | (k_extra "bnd")) | fail) ?_); intro v'_k t'_k h'_k tk'_k hv'_k F'_k N'_k; (try dsimp only); (try k_sweep))
  refine wpAny_call ?_
  k_dflt k_enter
  k_steps
  all_goals (first | exact ret (.int _) _ _ _ _ _ (wI (by assumption) (by assumption)) (Nat.ne_of_gt (‹∀ q : Addr × Obj, q ∈ news → q.1 < _› _ hT)) (by assumption) (by assumption) | exact ret (.real _) _ _ _ _ _ (wR (by assumption) (by assumption) (by assumption)) (Nat.ne_of_gt (‹∀ q : Addr × Obj, q ∈ news → q.1 < _› _ hT)) (by assumption) (by assumption) | exact exc0 _ (wB (by assumption) (by assumption) (by assumption)) _ _ _ _ _ _ _ (by assumption) (by assumption) (by assumption))))


theorem c_added {a1 a2 : Addr} {o1 o2 : Op} {t1 t2 t3 t4 : Tok} {TL : Addr} {oT : Obj} (hd : dp + 25 < recursionLimit) (hu : un + 250 < cLine) (N : News h₀ L s.heap (news))
    (h1 : (a1, tupO o1 t1 t2) ∈ news)
    (h2 : (a2, tupO o2 t3 t4) ∈ news)
    (hA : o1.num = true)
    (hB : o2.num = true)
    (hs1 : Tn o1.mil)
    (hs2 : Tn o2.mil)
    (hT : (TL, oT) ∈ news)
    (ret : ∀ o D t1' t2' h' tk', addF o1 o2 = .ok o → D ≠ TL → Fr h₀ L h' m → News h₀ L h' ((D, tupO o t1' t2') :: news) → Q (.ref D) { s with heap := h', toks := tk' })
    (exc0 : ∀ b, addF o1 o2 = .bad b → Exc w base h₀ L m (envX cn cs L a ccd cl :: outer) s E b (news))
    : wpAny (model Pg w) (ktrTop dp un gd cn cs L a ccd cl outer) (call (.ref 103) [.ref a1, .ref a2]) Q E s := wit (by exact Wit.get : Wit (by
  k_with "my call ref" => ((fail_if_success (k_extra "off3")); k_here; (with_reducible show wpAny _ _ (call (Value.ref 96) [Value.int _ _]) _ _ _); k_dflt (refine' c_whole (by k_asm) (by k_asm) (by k_asm) (by k_asm) (by first | exact rfl | assumption | fail) (by k_room) (by k_extra "units") (by k_asm) (by first | assumption | (k_extra "bnd") | exact mulSm (by first | assumption | (k_extra "bnd")) (by first | assumption | (k_extra "bnd")) | fail) (by k_mem) ?_ ?_); intro o'_k D'_k t1'_k t2'_k h'_k tk'_k hr'_k hne'_k F'_k N'_k; (try dsimp only); (try k_sweep); rotate_left; intro b'_k hb'_k g'_k e'_k d'_k tk'_k t'_k h'_k tk2'_k FG'_k R'_k k'_k; (try dsimp only); rotate_left)
  cases o1 with
  | bool b => cases hA
  | int i =>
    cases o2 with
    | bool b => cases hB
    | int j =>
      dsimp only [tupO, Op.kd, Op.val, Op.mil, Tn] at *
      refine wpAny_call ?_
      k_dflt k_enter
      k_steps
      all_goals (first | exact exc0 _ (by exact ‹wholeF _ = Res.bad _›) _ _ _ _ _ _ _ (by assumption) (by assumption) (by assumption) | exact ret _ _ _ _ _ _ (by exact ‹wholeF _ = Res.ok _›) (by assumption) (by assumption) (by assumption))
    | real j =>
      dsimp only [tupO, Op.kd, Op.val, Op.mil, Tn] at *
      refine wpAny_call ?_
      k_dflt k_enter
      k_steps
      all_goals (first | exact exc0 _ (by (have hq := ‹¬ inR _›; skip; exact rBad hq)) _ _ _ _ _ _ _ (by assumption) (by assumption) (by assumption) | exact ret (.real _) _ _ _ _ _ (by (have hq := ‹inR _›; skip; exact rOk hq)) (Nat.ne_of_gt (‹∀ q : Addr × Obj, q ∈ news → q.1 < _› _ hT)) (by assumption) (by assumption))
  | real i =>
    dsimp only [tupO, Op.kd, Op.val] at h1
    have hz1 : -1000000000000000000000 ≤ i ∧ i ≤ 1000000000000000000000 := hs1
    have hz2 : -1000000000000000000000 ≤ o2.mil ∧ o2.mil ≤ 1000000000000000000000 := hs2
    clear hs1 hs2
    refine wpAny_call ?_
    k_dflt k_enter
    k_steps
    all_goals (first | exact exc0 _ (by (have hq := ‹¬ inR _›; skip; exact rBad hq)) _ _ _ _ _ _ _ (by assumption) (by assumption) (by assumption) | exact ret (.real _) _ _ _ _ _ (by (have hq := ‹inR _›; skip; exact rOk hq)) (Nat.ne_of_gt (‹∀ q : Addr × Obj, q ∈ news → q.1 < _› _ hT)) (by assumption) (by assumption))))

theorem c_subtracted {a1 a2 : Addr} {o1 o2 : Op} {t1 t2 t3 t4 : Tok} {TL : Addr} {oT : Obj} (hd : dp + 25 < recursionLimit) (hu : un + 250 < cLine) (N : News h₀ L s.heap (news))
    (h1 : (a1, tupO o1 t1 t2) ∈ news)
    (h2 : (a2, tupO o2 t3 t4) ∈ news)
    (hA : o1.num = true)
    (hB : o2.num = true)
    (hs1 : Tn o1.mil)
    (hs2 : Tn o2.mil)
    (hT : (TL, oT) ∈ news)
    (ret : ∀ o D t1' t2' h' tk', subF o1 o2 = .ok o → D ≠ TL → Fr h₀ L h' m → News h₀ L h' ((D, tupO o t1' t2') :: news) → Q (.ref D) { s with heap := h', toks := tk' })
    (exc0 : ∀ b, subF o1 o2 = .bad b → Exc w base h₀ L m (envX cn cs L a ccd cl :: outer) s E b (news))
    : wpAny (model Pg w) (ktrTop dp un gd cn cs L a ccd cl outer) (call (.ref 110) [.ref a1, .ref a2]) Q E s := wit (by exact Wit.get : Wit (by
  cases o1 with
  | bool b => cases hA
  | int i =>
    cases o2 with
    | bool b => cases hB
    | int j =>
      dsimp only [tupO, Op.kd, Op.val, Op.mil, Tn] at *
      refine wpAny_call ?_
      k_dflt k_enter
      k_steps
      all_goals (first | exact exc0 _ (by exact ‹wholeF _ = Res.bad _›) _ _ _ _ _ _ _ (by assumption) (by assumption) (by assumption) | exact ret _ _ _ _ _ _ (by exact ‹wholeF _ = Res.ok _›) (by assumption) (by assumption) (by assumption))
    | real j =>
      dsimp only [tupO, Op.kd, Op.val, Op.mil, Tn] at *
      refine wpAny_call ?_
      k_dflt k_enter
      k_steps
      all_goals (first | exact exc0 _ (by (have hq := ‹¬ inR _›; skip; exact rBad hq)) _ _ _ _ _ _ _ (by assumption) (by assumption) (by assumption) | exact ret (.real _) _ _ _ _ _ (by (have hq := ‹inR _›; skip; exact rOk hq)) (Nat.ne_of_gt (‹∀ q : Addr × Obj, q ∈ news → q.1 < _› _ hT)) (by assumption) (by assumption))
  | real i =>
    dsimp only [tupO, Op.kd, Op.val] at h1
    have hz1 : -1000000000000000000000 ≤ i ∧ i ≤ 1000000000000000000000 := hs1
    have hz2 : -1000000000000000000000 ≤ o2.mil ∧ o2.mil ≤ 1000000000000000000000 := hs2
    clear hs1 hs2
    refine wpAny_call ?_
    k_dflt k_enter
    k_steps
    all_goals (first | exact exc0 _ (by (have hq := ‹¬ inR _›; skip; exact rBad hq)) _ _ _ _ _ _ _ (by assumption) (by assumption) (by assumption) | exact ret (.real _) _ _ _ _ _ (by (have hq := ‹inR _›; skip; exact rOk hq)) (Nat.ne_of_gt (‹∀ q : Addr × Obj, q ∈ news → q.1 < _› _ hT)) (by assumption) (by assumption))))

theorem c_multiplied {a1 a2 : Addr} {o1 o2 : Op} {t1 t2 t3 t4 : Tok} {TL : Addr} {oT : Obj} (hd : dp + 25 < recursionLimit) (hu : un + 250 < cLine) (N : News h₀ L s.heap (news))
    (h1 : (a1, tupO o1 t1 t2) ∈ news)
    (h2 : (a2, tupO o2 t3 t4) ∈ news)
    (hA : o1.num = true)
    (hB : o2.num = true)
    (hs1 : Tn o1.mil)
    (hs2 : Tn o2.mil)
    (hT : (TL, oT) ∈ news)
    (ret : ∀ o D t1' t2' h' tk', mulF o1 o2 = .ok o → D ≠ TL → Fr h₀ L h' m → News h₀ L h' ((D, tupO o t1' t2') :: news) → Q (.ref D) { s with heap := h', toks := tk' })
    (exc0 : ∀ b, mulF o1 o2 = .bad b → Exc w base h₀ L m (envX cn cs L a ccd cl :: outer) s E b (news))
    : wpAny (model Pg w) (ktrTop dp un gd cn cs L a ccd cl outer) (call (.ref 117) [.ref a1, .ref a2]) Q E s := wit (by exact Wit.get : Wit (by
  cases o1 with
  | bool b => cases hA
  | int i =>
    cases o2 with
    | bool b => cases hB
    | int j =>
      dsimp only [tupO, Op.kd, Op.val, Op.mil, Tn] at *
      refine wpAny_call ?_
      k_dflt k_enter
      k_steps
      all_goals (first | exact exc0 _ (by exact ‹wholeF _ = Res.bad _›) _ _ _ _ _ _ _ (by assumption) (by assumption) (by assumption) | exact ret _ _ _ _ _ _ (by exact ‹wholeF _ = Res.ok _›) (by assumption) (by assumption) (by assumption))
    | real j =>
      dsimp only [tupO, Op.kd, Op.val, Op.mil, Tn] at *
      refine wpAny_call ?_
      k_dflt k_enter
      k_steps
      all_goals (first | exact exc0 _ (mB (by assumption) (by assumption)) _ _ _ _ _ _ _ (by assumption) (by assumption) (by assumption) | exact ret (.real _) _ _ _ _ _ (mR (by assumption) (by assumption)) (Nat.ne_of_gt (‹∀ q : Addr × Obj, q ∈ news → q.1 < _› _ hT)) (by assumption) (by assumption))
  | real i =>
    dsimp only [tupO, Op.kd, Op.val] at h1
    have hz1 : -1000000000000000000000 ≤ i ∧ i ≤ 1000000000000000000000 := hs1
    have hz2 : -1000000000000000000000 ≤ o2.mil ∧ o2.mil ≤ 1000000000000000000000 := hs2
    clear hs1 hs2
    refine wpAny_call ?_
    k_dflt k_enter
    k_steps
    all_goals (first | exact exc0 _ (mB (by assumption) (by assumption)) _ _ _ _ _ _ _ (by assumption) (by assumption) (by assumption) | exact ret (.real _) _ _ _ _ _ (mR (by assumption) (by assumption)) (Nat.ne_of_gt (‹∀ q : Addr × Obj, q ∈ news → q.1 < _› _ hT)) (by assumption) (by assumption))))

theorem c_quotient {a1 a2 : Addr} {o1 o2 : Op} {t1 t2 t3 t4 : Tok} {TL : Addr} {oT : Obj} (hd : dp + 25 < recursionLimit) (hu : un + 250 < cLine) (N : News h₀ L s.heap (news))
    (h1 : (a1, tupO o1 t1 t2) ∈ news)
    (h2 : (a2, tupO o2 t3 t4) ∈ news)
    (hA : o1.num = true)
    (hB : o2.num = true)
    (hs1 : Tn o1.mil)
    (hs2 : Tn o2.mil)
    (hT : (TL, oT) ∈ news)
    (ret : ∀ o D t1' t2' h' tk', quotF o1 o2 = .ok o → D ≠ TL → Fr h₀ L h' m → News h₀ L h' ((D, tupO o t1' t2') :: news) → Q (.ref D) { s with heap := h', toks := tk' })
    (exc0 : ∀ b, quotF o1 o2 = .bad b → Exc w base h₀ L m (envX cn cs L a ccd cl :: outer) s E b (news))
    : wpAny (model Pg w) (ktrTop dp un gd cn cs L a ccd cl outer) (call (.ref 124) [.ref a1, .ref a2]) Q E s := wit (by exact Wit.get : Wit (by
  have hz1 : -1000000000000000000000 ≤ o1.mil ∧ o1.mil ≤ 1000000000000000000000 := hs1
  have hz2 : -1000000000000000000000 ≤ o2.mil ∧ o2.mil ≤ 1000000000000000000000 := hs2
  clear hs1 hs2
  refine wpAny_call ?_
  k_dflt k_enter
  k_steps
  all_goals (first | exact exc0 _ (qZ (by assumption)) _ _ _ _ _ _ _ (by assumption) (by assumption) (by assumption) | exact exc0 _ (qB (by assumption) (by assumption) (by assumption)) _ _ _ _ _ _ _ (by assumption) (by assumption) (by assumption) | exact ret (.real _) _ _ _ _ _ (qR (by assumption) (by assumption) (by assumption)) (Nat.ne_of_gt (‹∀ q : Addr × Obj, q ∈ news → q.1 < _› _ hT)) (by assumption) (by assumption))))

theorem c_iq {x y : Int} {t u : Tok} (hd : dp + 15 < recursionLimit) (hu : un + 150 < cLine) (N : News h₀ L s.heap (news))
    (hx : Sm x)
    (hz : Sm y)
    (ret : ∀ v t' h' tk', idivF x y = .ok (.int v) → Fr h₀ L h' m → News h₀ L h' news → Q (.int v t') { s with heap := h', toks := tk' })
    (exc0 : ∀ b, idivF x y = .bad b → Exc w base h₀ L m (envX cn cs L a ccd cl :: outer) s E b (news))
    : wpAny (model Pg w) (ktrTop dp un gd cn cs L a ccd cl outer) (call (.ref 131) [.int x t, .int y u]) Q E s := wit (by exact Wit.get : Wit (by
  refine wpAny_call ?_
  k_dflt k_enter
  k_steps
  all_goals (first | exact exc0 _ (iZ (by assumption)) _ _ _ _ _ _ _ (by assumption) (by assumption) (by assumption) | exact exc0 _ (iBad (by assumption) (iS (by assumption)) (notFits (by assumption) (by assumption))) _ _ _ _ _ _ _ (by assumption) (by assumption) (by assumption) | exact exc0 _ (iBad (by assumption) (iD (by assumption)) (notFits (by assumption) (by assumption))) _ _ _ _ _ _ _ (by assumption) (by assumption) (by assumption) | exact ret _ _ _ _ (iOk (by assumption) (iS (by assumption)) (fitsOf (by assumption) (by assumption))) (by assumption) (by assumption) | exact ret _ _ _ _ (iOk (by assumption) (iD (by assumption)) (fitsOf (by assumption) (by assumption))) (by assumption) (by assumption))))

theorem c_ir {x y : Int} {t u : Tok} (hd : dp + 15 < recursionLimit) (hu : un + 150 < cLine) (N : News h₀ L s.heap (news))
    (hx : Sm x)
    (hz : Sm y)
    (ret : ∀ v t' h' tk', modF x y = .ok (.int v) → Fr h₀ L h' m → News h₀ L h' news → Q (.int v t') { s with heap := h', toks := tk' })
    (exc0 : ∀ b, modF x y = .bad b → Exc w base h₀ L m (envX cn cs L a ccd cl :: outer) s E b (news))
    : wpAny (model Pg w) (ktrTop dp un gd cn cs L a ccd cl outer) (call (.ref 138) [.int x t, .int y u]) Q E s := wit (by exact Wit.get : Wit (by
  refine wpAny_call ?_
  k_dflt k_enter
  k_steps
  all_goals (first | exact exc0 _ (mZ (by assumption)) _ _ _ _ _ _ _ (by assumption) (by assumption) (by assumption) | exact ret _ _ _ _ (mN (by assumption) (by assumption)) (by assumption) (by assumption) | exact ret _ _ _ _ (mP (by assumption) (by assumption)) (by assumption) (by assumption))))

theorem c_negated {a1 : Addr} {o1 : Op} {t1 t2 : Tok} {TL : Addr} {oT : Obj} (hd : dp + 20 < recursionLimit) (hu : un + 200 < cLine) (N : News h₀ L s.heap (news))
    (h1 : (a1, tupO o1 t1 t2) ∈ news)
    (hA : o1.num = true)
    (hs1 : Tn o1.mil)
    (hT : (TL, oT) ∈ news)
    (hne : a1 ≠ TL)
    (ret : ∀ o D t1' t2' h' tk', negF o1 = .ok o → D ≠ TL → Fr h₀ L h' m → News h₀ L h' ((D, tupO o t1' t2') :: news) → Q (.ref D) { s with heap := h', toks := tk' })
    (exc0 : ∀ b, negF o1 = .bad b → Exc w base h₀ L m (envX cn cs L a ccd cl :: outer) s E b (news))
    : wpAny (model Pg w) (ktrTop dp un gd cn cs L a ccd cl outer) (call (.ref 145) [.ref a1]) Q E s := wit (by exact Wit.get : Wit (by
  cases o1 with
  | bool b => cases hA
  | int i =>
    dsimp only [tupO, Op.kd, Op.val, Op.mil, Tn] at *
    refine wpAny_call ?_
    k_dflt k_enter
    k_steps
    all_goals (first | exact exc0 _ (by exact ‹wholeF _ = Res.bad _›) _ _ _ _ _ _ _ (by assumption) (by assumption) (by assumption) | exact ret _ _ _ _ _ _ (by exact ‹wholeF _ = Res.ok _›) (by assumption) (by assumption) (by assumption))
  | real i =>
    dsimp only [tupO, Op.kd, Op.val, Op.mil, Tn] at *
    refine wpAny_call ?_
    k_dflt k_enter
    k_steps
    all_goals (first | exact ret (.real _) _ _ _ _ _ rfl (Nat.ne_of_gt (‹∀ q : Addr × Obj, q ∈ news → q.1 < _› _ hT)) (by assumption) (by assumption))))


theorem c_absolute {a1 : Addr} {o1 : Op} {t1 t2 : Tok} {TL : Addr} {oT : Obj} (hd : dp + 30 < recursionLimit) (hu : un + 300 < cLine) (N : News h₀ L s.heap (news))
    (h1 : (a1, tupO o1 t1 t2) ∈ news)
    (hA : o1.num = true)
    (hs1 : Tn o1.mil)
    (hT : (TL, oT) ∈ news)
    (hne : a1 ≠ TL)
    (ret : ∀ o D t1' t2' h' tk', absF o1 = .ok o → D ≠ TL → Fr h₀ L h' m → News h₀ L h' ((D, tupO o t1' t2') :: news) → Q (.ref D) { s with heap := h', toks := tk' })
    (exc0 : ∀ b, absF o1 = .bad b → Exc w base h₀ L m (envX cn cs L a ccd cl :: outer) s E b (news))
    : wpAny (model Pg w) (ktrTop dp un gd cn cs L a ccd cl outer) (call (.ref 152) [.ref a1]) Q E s := wit (by exact Wit.get : Wit (by
  k_with "my call ref" => ((fail_if_success (k_extra "off3")); k_here; (with_reducible show wpAny _ _ (call (Value.ref 145) [Value.ref _]) _ _ _); k_dflt (refine' c_negated (by k_asm) (by k_asm) (by k_asm) (by k_asm) (by first | exact rfl | assumption | fail) (by k_room) (by k_extra "units") (by k_asm) (by k_mem) (by first | assumption | rfl | fail) (by first | assumption | (k_extra "bnd") | exact mulSm (by first | assumption | (k_extra "bnd")) (by first | assumption | (k_extra "bnd")) | fail) (by k_mem) (by first | assumption | exact Nat.ne_of_gt (by assumption) | omega | fail) ?_ ?_); intro o'_k D'_k t1'_k t2'_k h'_k tk'_k hr'_k hne'_k F'_k N'_k; (try dsimp only); (try k_sweep); rotate_left; intro b'_k hb'_k g'_k e'_k d'_k tk'_k t'_k h'_k tk2'_k FG'_k R'_k k'_k; (try dsimp only); rotate_left)
  cases o1 with
  | bool b => cases hA
  | int i =>
    dsimp only [tupO, Op.kd, Op.val, Op.mil, Tn] at *
    refine wpAny_call ?_
    k_dflt k_enter
    k_steps
    all_goals (first | exact exc0 _ (by (unfold absF; rw [if_pos (by (show Op.mil _ < 0; dsimp only [Op.mil]; omega))]; assumption)) _ _ _ _ _ _ _ (by assumption) (by assumption) (by assumption) | exact ret _ _ _ _ _ _ (by (unfold absF; rw [if_pos (by (show Op.mil _ < 0; dsimp only [Op.mil]; omega))]; assumption)) (by assumption) (by assumption) (by assumption) | exact ret (.int _) _ _ _ _ _ (by (unfold absF; rw [if_neg (by (show ¬ Op.mil _ < 0; dsimp only [Op.mil]; omega))])) hne (by assumption) (selfN h1 (by assumption)))
  | real i =>
    dsimp only [tupO, Op.kd, Op.val, Op.mil, Tn] at *
    refine wpAny_call ?_
    k_dflt k_enter
    k_steps
    all_goals (first | exact ret (.real _) _ _ _ _ _ (absR (by assumption)) (Nat.ne_of_gt (‹∀ q : Addr × Obj, q ∈ news → q.1 < _› _ hT)) (by assumption) (by assumption) | exact exc0 _ (by (unfold absF; rw [if_pos (by (show Op.mil _ < 0; dsimp only [Op.mil]; omega))]; assumption)) _ _ _ _ _ _ _ (by assumption) (by assumption) (by assumption) | exact ret _ _ _ _ _ _ (by (unfold absF; rw [if_pos (by (show Op.mil _ < 0; dsimp only [Op.mil]; omega))]; assumption)) (by assumption) (by assumption) (by assumption) | exact ret (.real _) _ _ _ _ _ (by (unfold absF; rw [if_neg (by (show ¬ Op.mil _ < 0; dsimp only [Op.mil]; omega))])) hne (by assumption) (selfN h1 (by assumption)))))

theorem c_floor {a1 : Addr} {o1 : Op} {t1 t2 : Tok} {TL : Addr} {oT : Obj} (hd : dp + 20 < recursionLimit) (hu : un + 200 < cLine) (N : News h₀ L s.heap (news))
    (h1 : (a1, tupO o1 t1 t2) ∈ news)
    (hA : o1.num = true)
    (hs1 : Tn o1.mil)
    (hT : (TL, oT) ∈ news)
    (hne : a1 ≠ TL)
    (ret : ∀ o D t1' t2' h' tk', floorF o1 = .ok o → D ≠ TL → Fr h₀ L h' m → News h₀ L h' ((D, tupO o t1' t2') :: news) → Q (.ref D) { s with heap := h', toks := tk' })
    (exc0 : ∀ b, floorF o1 = .bad b → Exc w base h₀ L m (envX cn cs L a ccd cl :: outer) s E b (news))
    : wpAny (model Pg w) (ktrTop dp un gd cn cs L a ccd cl outer) (call (.ref 159) [.ref a1]) Q E s := wit (by exact Wit.get : Wit (by
  cases o1 with
  | bool b => cases hA
  | int i =>
    dsimp only [tupO, Op.kd, Op.val, Op.mil, Tn] at *
    refine wpAny_call ?_
    k_dflt k_enter
    k_steps
    all_goals (first | exact ret (.int _) _ _ _ _ _ rfl hne (by assumption) (selfN h1 (by assumption)))
  | real i =>
    dsimp only [tupO, Op.kd, Op.val, Op.mil, Tn] at *
    refine wpAny_call ?_
    k_dflt k_enter
    k_steps
    all_goals (first | exact exc0 _ (by (have hq := ‹¬ inR _›; skip; exact rBad hq)) _ _ _ _ _ _ _ (by assumption) (by assumption) (by assumption) | exact ret (.real _) _ _ _ _ _ (by (have hq := ‹inR _›; skip; exact rOk hq)) (Nat.ne_of_gt (‹∀ q : Addr × Obj, q ∈ news → q.1 < _› _ hT)) (by assumption) (by assumption))))

theorem c_ceil {a1 : Addr} {o1 : Op} {t1 t2 : Tok} {TL : Addr} {oT : Obj} (hd : dp + 20 < recursionLimit) (hu : un + 200 < cLine) (N : News h₀ L s.heap (news))
    (h1 : (a1, tupO o1 t1 t2) ∈ news)
    (hA : o1.num = true)
    (hs1 : Tn o1.mil)
    (hT : (TL, oT) ∈ news)
    (hne : a1 ≠ TL)
    (ret : ∀ o D t1' t2' h' tk', ceilF o1 = .ok o → D ≠ TL → Fr h₀ L h' m → News h₀ L h' ((D, tupO o t1' t2') :: news) → Q (.ref D) { s with heap := h', toks := tk' })
    (exc0 : ∀ b, ceilF o1 = .bad b → Exc w base h₀ L m (envX cn cs L a ccd cl :: outer) s E b (news))
    : wpAny (model Pg w) (ktrTop dp un gd cn cs L a ccd cl outer) (call (.ref 166) [.ref a1]) Q E s := wit (by exact Wit.get : Wit (by
  cases o1 with
  | bool b => cases hA
  | int i =>
    dsimp only [tupO, Op.kd, Op.val, Op.mil, Tn] at *
    refine wpAny_call ?_
    k_dflt k_enter
    k_steps
    all_goals (first | exact ret (.int _) _ _ _ _ _ rfl hne (by assumption) (selfN h1 (by assumption)))
  | real i =>
    dsimp only [tupO, Op.kd, Op.val, Op.mil, Tn] at *
    refine wpAny_call ?_
    k_dflt k_enter
    k_steps
    all_goals (first | exact exc0 _ (by (have hq := ‹¬ inR _›; skip; exact rBad hq)) _ _ _ _ _ _ _ (by assumption) (by assumption) (by assumption) | exact ret (.real _) _ _ _ _ _ (by (have hq := ‹inR _›; skip; exact rOk hq)) (Nat.ne_of_gt (‹∀ q : Addr × Obj, q ∈ news → q.1 < _› _ hT)) (by assumption) (by assumption))))

theorem c_round {a1 : Addr} {o1 : Op} {t1 t2 : Tok} {TL : Addr} {oT : Obj} (hd : dp + 20 < recursionLimit) (hu : un + 200 < cLine) (N : News h₀ L s.heap (news))
    (h1 : (a1, tupO o1 t1 t2) ∈ news)
    (hA : o1.num = true)
    (hs1 : Tn o1.mil)
    (hT : (TL, oT) ∈ news)
    (hne : a1 ≠ TL)
    (ret : ∀ o D t1' t2' h' tk', roundF o1 = .ok o → D ≠ TL → Fr h₀ L h' m → News h₀ L h' ((D, tupO o t1' t2') :: news) → Q (.ref D) { s with heap := h', toks := tk' })
    (exc0 : ∀ b, roundF o1 = .bad b → Exc w base h₀ L m (envX cn cs L a ccd cl :: outer) s E b (news))
    : wpAny (model Pg w) (ktrTop dp un gd cn cs L a ccd cl outer) (call (.ref 173) [.ref a1]) Q E s := wit (by exact Wit.get : Wit (by
  cases o1 with
  | bool b => cases hA
  | int i =>
    dsimp only [tupO, Op.kd, Op.val, Op.mil, Tn] at *
    refine wpAny_call ?_
    k_dflt k_enter
    k_steps
    all_goals (first | exact ret (.int _) _ _ _ _ _ rfl hne (by assumption) (selfN h1 (by assumption)))
  | real i =>
    dsimp only [tupO, Op.kd, Op.val, Op.mil, Tn] at *
    refine wpAny_call ?_
    k_dflt k_enter
    k_steps
    all_goals (first | exact exc0 _ (by (have hq := ‹¬ inR _›; skip; exact rBad hq)) _ _ _ _ _ _ _ (by assumption) (by assumption) (by assumption) | exact ret (.real _) _ _ _ _ _ (by (have hq := ‹inR _›; skip; exact rOk hq)) (Nat.ne_of_gt (‹∀ q : Addr × Obj, q ∈ news → q.1 < _› _ hT)) (by assumption) (by assumption))))

theorem c_trunc {a1 : Addr} {o1 : Op} {t1 t2 : Tok} {TL : Addr} {oT : Obj} (hd : dp + 20 < recursionLimit) (hu : un + 200 < cLine) (N : News h₀ L s.heap (news))
    (h1 : (a1, tupO o1 t1 t2) ∈ news)
    (hA : o1.num = true)
    (hs1 : Tn o1.mil)
    (hT : (TL, oT) ∈ news)
    (hne : a1 ≠ TL)
    (ret : ∀ o D t1' t2' h' tk', truncF o1 = .ok o → D ≠ TL → Fr h₀ L h' m → News h₀ L h' ((D, tupO o t1' t2') :: news) → Q (.ref D) { s with heap := h', toks := tk' })
    (exc0 : ∀ b, truncF o1 = .bad b → Exc w base h₀ L m (envX cn cs L a ccd cl :: outer) s E b (news))
    : wpAny (model Pg w) (ktrTop dp un gd cn cs L a ccd cl outer) (call (.ref 180) [.ref a1]) Q E s := wit (by exact Wit.get : Wit (by
  cases o1 with
  | bool b => cases hA
  | int i =>
    dsimp only [tupO, Op.kd, Op.val, Op.mil, Tn] at *
    refine wpAny_call ?_
    k_dflt k_enter
    k_steps
    all_goals (first | exact ret (.int _) _ _ _ _ _ rfl hne (by assumption) (selfN h1 (by assumption)))
  | real i =>
    dsimp only [tupO, Op.kd, Op.val, Op.mil, Tn] at *
    refine wpAny_call ?_
    k_dflt k_enter
    k_steps
    all_goals (first | exact ret (.real _) _ _ _ _ _ (tP (by assumption)) (Nat.ne_of_gt (‹∀ q : Addr × Obj, q ∈ news → q.1 < _› _ hT)) (by assumption) (by assumption) | exact ret (.real _) _ _ _ _ _ (tN (by assumption)) (Nat.ne_of_gt (‹∀ q : Addr × Obj, q ∈ news → q.1 < _› _ hT)) (by assumption) (by assumption))))

theorem c_integer {v : Value} (hd : dp + 10 < recursionLimit) (hu : un + 100 < cLine) (N : News h₀ L s.heap (news))
    (hv : handedIn v = true)
    (ret : ∀ z dz k1 k2 k3 k4 t1 t2 h' tk', Fr h₀ L h' m → News h₀ L h' ((z, instObj 198 dz) :: (dz, thD w k1 k2 k3 k4 t1 t2 (Str.ofString "integer") v) :: news) → (∀ q ∈ news, q.1 < dz) → dz < z → Q (.ref z) { s with heap := h', toks := tk' })
    : wpAny (model Pg w) (ktrTop dp un gd cn cs L a ccd cl outer) (call (.ref 209) [v]) Q E s := wit (by exact Wit.get : Wit (by
  refine wpAny_call ?_
  k_dflt k_enter
  k_steps
  all_goals exact ret _ _ _ _ _ _ _ _ _ _ (by assumption) (by assumption) (by assumption) (by assumption)))


theorem c_real {v : Value} (hd : dp + 10 < recursionLimit) (hu : un + 100 < cLine) (N : News h₀ L s.heap (news))
    (hv : handedIn v = true)
    (ret : ∀ z dz k1 k2 k3 k4 t1 t2 h' tk', Fr h₀ L h' m → News h₀ L h' ((z, instObj 198 dz) :: (dz, thD w k1 k2 k3 k4 t1 t2 (Str.ofString "real") v) :: news) → (∀ q ∈ news, q.1 < dz) → dz < z → Q (.ref z) { s with heap := h', toks := tk' })
    : wpAny (model Pg w) (ktrTop dp un gd cn cs L a ccd cl outer) (call (.ref 216) [v]) Q E s := wit (by exact Wit.get : Wit (by
  k_with "my call ref" => ((fail_if_success (k_extra "off3")); k_here; (with_reducible show wpAny _ _ (call (Value.ref 209) [_]) _ _ _); k_dflt (refine' c_integer (by k_asm) (by k_asm) (by k_asm) (by k_asm) (by first | exact rfl | assumption | fail) (by k_room) (by k_extra "units") (by k_asm) (by first | exact rfl | assumption | fail) ?_); intro z'_k dz'_k k1'_k k2'_k k3'_k k4'_k t1'_k t2'_k h'_k tk'_k F'_k N'_k l1_k l2_k; (try k_lt l1_k); (try k_lt2 l2_k); (try dsimp only); (try k_sweep))
  refine wpAny_call ?_
  k_dflt k_enter
  k_steps
  all_goals exact ret _ _ _ _ _ _ _ _ _ _ (by assumption) (by assumption) (by assumption) (by assumption)))


theorem c_boolean {v : Value} (hd : dp + 10 < recursionLimit) (hu : un + 100 < cLine) (N : News h₀ L s.heap (news))
    (hv : handedIn v = true)
    (ret : ∀ z dz k1 k2 k3 k4 t1 t2 h' tk', Fr h₀ L h' m → News h₀ L h' ((z, instObj 198 dz) :: (dz, thD w k1 k2 k3 k4 t1 t2 (Str.ofString "boolean") v) :: news) → (∀ q ∈ news, q.1 < dz) → dz < z → Q (.ref z) { s with heap := h', toks := tk' })
    : wpAny (model Pg w) (ktrTop dp un gd cn cs L a ccd cl outer) (call (.ref 223) [v]) Q E s := wit (by exact Wit.get : Wit (by
  k_with "my call ref" => ((fail_if_success (k_extra "off3")); k_here; (with_reducible show wpAny _ _ (call (Value.ref 216) [_]) _ _ _); k_dflt (refine' c_real (by k_asm) (by k_asm) (by k_asm) (by k_asm) (by first | exact rfl | assumption | fail) (by k_room) (by k_extra "units") (by k_asm) (by first | exact rfl | assumption | fail) ?_); intro z'_k dz'_k k1'_k k2'_k k3'_k k4'_k t1'_k t2'_k h'_k tk'_k F'_k N'_k l1_k l2_k; (try k_lt l1_k); (try k_lt2 l2_k); (try dsimp only); (try k_sweep))
  refine wpAny_call ?_
  k_dflt k_enter
  k_steps
  all_goals exact ret _ _ _ _ _ _ _ _ _ _ (by assumption) (by assumption) (by assumption) (by assumption)))


theorem c_spk3n {MA TL b1 b2 x : Addr} {kd : Str} {v : Value} {n : Nat} (hd : dp + 20 < recursionLimit) (hu : un + 200 < cLine) (N : News h₀ L s.heap ((TL, listOf #[.ref b1, .ref b2, .ref x] n) :: news))
    (hM : MachAt w news MA TL)
    (hx : ThingAt w news x kd v)
    (hT : ∀ q ∈ news, q.1 ≠ TL)
    (ret : ([Str.ofString "integer", Str.ofString "real"].any (· == kd)) = true → ∀ n' h' tk', Fr h₀ L h' m → News h₀ L h' ((TL, listOf #[.ref b1, .ref b2] n') :: news) → Q (.ref x) { s with heap := h', toks := tk' })
    (exc0 : ([Str.ofString "integer", Str.ofString "real"].any (· == kd)) = false → Exc w base h₀ L m (envX cn cs L a ccd cl :: outer) s E typecheck (news))
    : wpAny (model Pg w) (ktrTop dp un gd cn cs L a ccd cl outer) (call (.ref 414) [.ref MA, .ref 294]) Q E s := wit (by exact Wit.get : Wit (by
  k_with "my call ref" => ((fail_if_success (k_extra "off3")); k_here; (with_reducible show wpAny _ _ (call (Value.ref 223) [_]) _ _ _); k_dflt (refine' c_boolean (by k_asm) (by k_asm) (by k_asm) (by k_asm) (by first | exact rfl | assumption | fail) (by k_room) (by k_extra "units") (by k_asm) (by first | exact rfl | assumption | fail) ?_); intro z'_k dz'_k k1'_k k2'_k k3'_k k4'_k t1'_k t2'_k h'_k tk'_k F'_k N'_k l1_k l2_k; (try k_lt l1_k); (try k_lt2 l2_k); (try dsimp only); (try k_sweep))
  obtain ⟨dM, MD, nM, S, dS, km1, km2, km3, hMA, hMD, hMO, hSA, hSD⟩ := hM
  obtain ⟨dx, kx1, kx2, kx3, kx4, tx1, tx2, hxA, hxD⟩ := hx
  refine wpAny_call ?_
  k_dflt k_enter
  k_steps
  all_goals (first | exact ret (by assumption) _ _ _ (by assumption) (News.sub (by assumption) (by walk_at "k_sub")) | exact exc0 (by assumption) _ _ _ _ _ _ _ (by assumption) (Rs.sub (by assumption) (by walk_at "k_sub")) (by assumption))))


theorem c_spk4n {MA TL b1 b2 x1 x : Addr} {kd : Str} {v : Value} {n : Nat} (hd : dp + 20 < recursionLimit) (hu : un + 200 < cLine) (N : News h₀ L s.heap ((TL, listOf #[.ref b1, .ref b2, .ref x1, .ref x] n) :: news))
    (hM : MachAt w news MA TL)
    (hx : ThingAt w news x kd v)
    (hT : ∀ q ∈ news, q.1 ≠ TL)
    (ret : ([Str.ofString "integer", Str.ofString "real"].any (· == kd)) = true → ∀ n' h' tk', Fr h₀ L h' m → News h₀ L h' ((TL, listOf #[.ref b1, .ref b2, .ref x1] n') :: news) → Q (.ref x) { s with heap := h', toks := tk' })
    (exc0 : ([Str.ofString "integer", Str.ofString "real"].any (· == kd)) = false → Exc w base h₀ L m (envX cn cs L a ccd cl :: outer) s E typecheck (news))
    : wpAny (model Pg w) (ktrTop dp un gd cn cs L a ccd cl outer) (call (.ref 414) [.ref MA, .ref 294]) Q E s := wit (by exact Wit.get : Wit (by
  k_with "my call ref" => ((fail_if_success (k_extra "off3")); k_here; (with_reducible show wpAny _ _ (call (Value.ref 414) [Value.ref _, Value.ref 294]) _ _ _); k_dflt (refine' c_spk3n (by k_asm) (by k_asm) (by k_asm) (by k_asm) (by first | exact rfl | assumption | fail) (by k_room) (by k_extra "units") (by k_asm) (by assumption) (by assumption) (by assumption) ?_ ?_); intro ha'_k n'_k h'_k tk'_k F'_k N'_k; (try dsimp only); (try k_sweep); rotate_left; intro ha'_k g'_k e'_k d'_k tk'_k t'_k h'_k tk2'_k FG'_k R'_k k'_k; (try dsimp only); rotate_left)
  obtain ⟨dM, MD, nM, S, dS, km1, km2, km3, hMA, hMD, hMO, hSA, hSD⟩ := hM
  obtain ⟨dx, kx1, kx2, kx3, kx4, tx1, tx2, hxA, hxD⟩ := hx
  refine wpAny_call ?_
  k_dflt k_enter
  k_steps
  all_goals (first | exact ret (by assumption) _ _ _ (by assumption) (News.sub (by assumption) (by walk_at "k_sub")) | exact exc0 (by assumption) _ _ _ _ _ _ _ (by assumption) (Rs.sub (by assumption) (by walk_at "k_sub")) (by assumption))))


theorem c_spk3i {MA TL b1 b2 x : Addr} {kd : Str} {v : Value} {n : Nat} {KT : Addr} {tI : Tok} (hd : dp + 20 < recursionLimit) (hu : un + 200 < cLine) (N : News h₀ L s.heap ((KT, ({ cls := .type "tuple", data := .seq #[.str (Str.ofString "integer") tI] } : Obj)) :: (TL, listOf #[.ref b1, .ref b2, .ref x] n) :: news))
    (hM : MachAt w news MA TL)
    (hx : ThingAt w news x kd v)
    (hT : ∀ q ∈ news, q.1 ≠ TL)
    (hK : KT ≠ TL)
    (ret : ([Str.ofString "integer"].any (· == kd)) = true → ∀ n' h' tk', Fr h₀ L h' m → News h₀ L h' ((TL, listOf #[.ref b1, .ref b2] n') :: news) → Q (.ref x) { s with heap := h', toks := tk' })
    (exc0 : ([Str.ofString "integer"].any (· == kd)) = false → Exc w base h₀ L m (envX cn cs L a ccd cl :: outer) s E typecheck (news))
    : wpAny (model Pg w) (ktrTop dp un gd cn cs L a ccd cl outer) (call (.ref 414) [.ref MA, .ref KT]) Q E s := wit (by exact Wit.get : Wit (by
  k_with "my call ref" => ((fail_if_success (k_extra "off3")); k_here; (with_reducible show wpAny _ _ (call (Value.ref 414) [Value.ref _, Value.ref 294]) _ _ _); k_dflt (refine' c_spk4n (by k_asm) (by k_asm) (by k_asm) (by k_asm) (by first | exact rfl | assumption | fail) (by k_room) (by k_extra "units") (by k_asm) (by assumption) (by assumption) (by assumption) ?_ ?_); intro ha'_k n'_k h'_k tk'_k F'_k N'_k; (try dsimp only); (try k_sweep); rotate_left; intro ha'_k g'_k e'_k d'_k tk'_k t'_k h'_k tk2'_k FG'_k R'_k k'_k; (try dsimp only); rotate_left)
  obtain ⟨dM, MD, nM, S, dS, km1, km2, km3, hMA, hMD, hMO, hSA, hSD⟩ := hM
  obtain ⟨dx, kx1, kx2, kx3, kx4, tx1, tx2, hxA, hxD⟩ := hx
  refine wpAny_call ?_
  k_dflt k_enter
  k_steps
  all_goals (first | exact ret (by assumption) _ _ _ (by assumption) (News.sub (by assumption) (by walk_at "k_sub")) | exact exc0 (by assumption) _ _ _ _ _ _ _ (by assumption) (Rs.sub (by assumption) (by walk_at "k_sub")) (by assumption))))


theorem c_spk4i {MA TL b1 b2 x1 x : Addr} {kd : Str} {v : Value} {n : Nat} {KT : Addr} {tI : Tok} (hd : dp + 20 < recursionLimit) (hu : un + 200 < cLine) (N : News h₀ L s.heap ((KT, ({ cls := .type "tuple", data := .seq #[.str (Str.ofString "integer") tI] } : Obj)) :: (TL, listOf #[.ref b1, .ref b2, .ref x1, .ref x] n) :: news))
    (hM : MachAt w news MA TL)
    (hx : ThingAt w news x kd v)
    (hT : ∀ q ∈ news, q.1 ≠ TL)
    (hK : KT ≠ TL)
    (ret : ([Str.ofString "integer"].any (· == kd)) = true → ∀ n' h' tk', Fr h₀ L h' m → News h₀ L h' ((TL, listOf #[.ref b1, .ref b2, .ref x1] n') :: news) → Q (.ref x) { s with heap := h', toks := tk' })
    (exc0 : ([Str.ofString "integer"].any (· == kd)) = false → Exc w base h₀ L m (envX cn cs L a ccd cl :: outer) s E typecheck (news))
    : wpAny (model Pg w) (ktrTop dp un gd cn cs L a ccd cl outer) (call (.ref 414) [.ref MA, .ref KT]) Q E s := wit (by exact Wit.get : Wit (by
  k_with "my call ref" => ((fail_if_success (k_extra "off3")); k_here; (with_reducible show wpAny _ _ (call (Value.ref 414) [Value.ref _, Value.ref _]) _ _ _); k_dflt (refine' c_spk3i (by k_asm) (by k_asm) (by k_asm) (by k_asm) (by first | exact rfl | assumption | fail) (by k_room) (by k_extra "units") (by k_asm) (by assumption) (by assumption) (by assumption) (by first | assumption | exact neN (by omega) | fail) ?_ ?_); intro ha'_k n'_k h'_k tk'_k F'_k N'_k; (try dsimp only); (try k_sweep); rotate_left; intro ha'_k g'_k e'_k d'_k tk'_k t'_k h'_k tk2'_k FG'_k R'_k k'_k; (try dsimp only); rotate_left)
  obtain ⟨dM, MD, nM, S, dS, km1, km2, km3, hMA, hMD, hMO, hSA, hSD⟩ := hM
  obtain ⟨dx, kx1, kx2, kx3, kx4, tx1, tx2, hxA, hxD⟩ := hx
  refine wpAny_call ?_
  k_dflt k_enter
  k_steps
  all_goals (first | exact ret (by assumption) _ _ _ (by assumption) (News.sub (by assumption) (by walk_at "k_sub")) | exact exc0 (by assumption) _ _ _ _ _ _ _ (by assumption) (Rs.sub (by assumption) (by walk_at "k_sub")) (by assumption))))


theorem c_two {MA TL b1 b2 x1 x : Addr} {o1 o2 : Op} {t1 t2 : Tok} {n : Nat} (hd : dp + 50 < recursionLimit) (hu : un + 500 < cLine) (N : News h₀ L s.heap ((TL, listOf #[.ref b1, .ref b2, .ref x1, .ref x] n) :: news))
    (hM : MachAt w news MA TL)
    (hx1 : ThingAt w news x1 o1.kd (o1.val t1))
    (hx : ThingAt w news x o2.kd (o2.val t2))
    (hT : ∀ q ∈ news, q.1 ≠ TL)
    (ret : o1.num = true → o2.num = true → ∀ P D1 D2 u1 u2 u3 u4 n' h' tk', Fr h₀ L h' m → News h₀ L h' ((P, ({ cls := .type "tuple", data := .seq #[.ref D1, .ref D2] } : Obj)) :: (D2, tupO o2 u3 u4) :: (D1, tupO o1 u1 u2) :: (TL, listOf #[.ref b1, .ref b2] n') :: news) → D1 ≠ TL → D2 ≠ TL → P ≠ TL → Q (.ref P) { s with heap := h', toks := tk' })
    (exc0 : (o1.num && o2.num) = false → Exc w base h₀ L m (envX cn cs L a ccd cl :: outer) s E typecheck (news))
    : wpAny (model Pg w) (ktrTop dp un gd cn cs L a ccd cl outer) (call (.ref 456) [.ref MA]) Q E s := wit (by exact Wit.get : Wit (by
  k_with "my call ref" => ((fail_if_success (k_extra "off3")); k_here; (with_reducible show wpAny _ _ (call (Value.ref 414) [Value.ref _, Value.ref _]) _ _ _); k_dflt (refine' c_spk4i (by k_asm) (by k_asm) (by k_asm) (by k_asm) (by first | exact rfl | assumption | fail) (by k_room) (by k_extra "units") (by k_asm) (by assumption) (by assumption) (by assumption) (by first | assumption | exact neN (by omega) | fail) ?_ ?_); intro ha'_k n'_k h'_k tk'_k F'_k N'_k; (try dsimp only); (try k_sweep); rotate_left; intro ha'_k g'_k e'_k d'_k tk'_k t'_k h'_k tk2'_k FG'_k R'_k k'_k; (try dsimp only); rotate_left)
  have hM0 := hM
  have hx0 := hx
  have hx10 := hx1
  obtain ⟨dM, MD, nM, S, dS, km1, km2, km3, hMA, hMD, hMO, hSA, hSD⟩ := hM
  obtain ⟨dx, kx1, kx2, kx3, kx4, tx1, tx2, hxA, hxD⟩ := hx
  obtain ⟨dx1, ky1, ky2, ky3, ky4, ty1, ty2, hyA, hyD⟩ := hx1
  refine wpAny_call ?_
  k_dflt k_enter
  k_steps
  all_goals (first | exact exc0 (nandR (notNum (by assumption))) _ _ _ _ _ _ _ (by assumption) (Rs.sub (by assumption) (by walk_at "k_sub")) (by assumption) | exact exc0 (nandL (notNum (by assumption))) _ _ _ _ _ _ _ (by assumption) (Rs.sub (by assumption) (by walk_at "k_sub")) (by assumption) | exact ret (numOf (by assumption)) (numOf (by assumption)) _ _ _ _ _ _ _ _ _ _ (by assumption) (by assumption) (by first | assumption | exact neN (by omega)) (by first | assumption | exact neN (by omega)) (by first | assumption | exact neN (by omega)) )))

theorem c_one {MA TL b1 b2 x : Addr} {o : Op} {t : Tok} {n : Nat} (hd : dp + 50 < recursionLimit) (hu : un + 500 < cLine) (N : News h₀ L s.heap ((TL, listOf #[.ref b1, .ref b2, .ref x] n) :: news))
    (hM : MachAt w news MA TL)
    (hx : ThingAt w news x o.kd (o.val t))
    (hT : ∀ q ∈ news, q.1 ≠ TL)
    (ret : o.num = true → ∀ D u1 u2 n' h' tk', Fr h₀ L h' m → News h₀ L h' ((D, tupO o u1 u2) :: (TL, listOf #[.ref b1, .ref b2] n') :: news) → D ≠ TL → Q (.ref D) { s with heap := h', toks := tk' })
    (exc0 : o.num = false → Exc w base h₀ L m (envX cn cs L a ccd cl :: outer) s E typecheck (news))
    : wpAny (model Pg w) (ktrTop dp un gd cn cs L a ccd cl outer) (call (.ref 449) [.ref MA]) Q E s := wit (by exact Wit.get : Wit (by
  have hM0 := hM
  have hx0 := hx
  obtain ⟨dM, MD, nM, S, dS, km1, km2, km3, hMA, hMD, hMO, hSA, hSD⟩ := hM
  obtain ⟨dx, kx1, kx2, kx3, kx4, tx1, tx2, hxA, hxD⟩ := hx
  refine wpAny_call ?_
  k_dflt k_enter
  k_steps
  all_goals (first | exact exc0 (notNum (by assumption)) _ _ _ _ _ _ _ (by assumption) (Rs.sub (by assumption) (by walk_at "k_sub")) (by assumption) | exact ret (numOf (by assumption)) _ _ _ _ _ _ (by assumption) (by assumption) (by first | assumption | exact neN (by omega)) )))

theorem c_ints {MA TL b1 b2 x1 x : Addr} {o1 o2 : Op} {t1 t2 : Tok} {n : Nat} (hd : dp + 50 < recursionLimit) (hu : un + 500 < cLine) (N : News h₀ L s.heap ((TL, listOf #[.ref b1, .ref b2, .ref x1, .ref x] n) :: news))
    (hM : MachAt w news MA TL)
    (hx1 : ThingAt w news x1 o1.kd (o1.val t1))
    (hx : ThingAt w news x o2.kd (o2.val t2))
    (hT : ∀ q ∈ news, q.1 ≠ TL)
    (ret : o1.isI = true → o2.isI = true → ∀ P n' h' tk', Fr h₀ L h' m → News h₀ L h' ((P, ({ cls := .type "tuple", data := .seq #[o1.val t1, o2.val t2] } : Obj)) :: (TL, listOf #[.ref b1, .ref b2] n') :: news) → P ≠ TL → Q (.ref P) { s with heap := h', toks := tk' })
    (exc0 : (o1.isI && o2.isI) = false → Exc w base h₀ L m (envX cn cs L a ccd cl :: outer) s E typecheck (news))
    : wpAny (model Pg w) (ktrTop dp un gd cn cs L a ccd cl outer) (call (.ref 463) [.ref MA]) Q E s := wit (by exact Wit.get : Wit (by
  have hM0 := hM
  have hx0 := hx
  have hx10 := hx1
  obtain ⟨dM, MD, nM, S, dS, km1, km2, km3, hMA, hMD, hMO, hSA, hSD⟩ := hM
  obtain ⟨dx, kx1, kx2, kx3, kx4, tx1, tx2, hxA, hxD⟩ := hx
  obtain ⟨dx1, ky1, ky2, ky3, ky4, ty1, ty2, hyA, hyD⟩ := hx1
  refine wpAny_call ?_
  k_dflt k_enter
  k_steps
  all_goals (first | exact exc0 (nandR (notInt (by assumption))) _ _ _ _ _ _ _ (by assumption) (Rs.sub (by assumption) (by walk_at "k_sub")) (by assumption) | exact exc0 (nandL (notInt (by assumption))) _ _ _ _ _ _ _ (by assumption) (Rs.sub (by assumption) (by walk_at "k_sub")) (by assumption) | exact ret (intOf (by assumption)) (intOf (by assumption)) _ _ _ _ (by assumption) (by assumption) (by first | assumption | exact neN (by omega)) )))

theorem c_things {MA TL b1 b2 x1 x : Addr} {n : Nat} (hd : dp + 50 < recursionLimit) (hu : un + 500 < cLine) (N : News h₀ L s.heap ((TL, listOf #[.ref b1, .ref b2, .ref x1, .ref x] n) :: news))
    (hM : MachAt w news MA TL)
    (hT : ∀ q ∈ news, q.1 ≠ TL)
    (ret : ∀ P n' h' tk', Fr h₀ L h' m → News h₀ L h' ((P, ({ cls := .type "tuple", data := .seq #[.ref x1, .ref x] } : Obj)) :: (TL, listOf #[.ref b1, .ref b2] n') :: news) → P ≠ TL → Q (.ref P) { s with heap := h', toks := tk' })
    : wpAny (model Pg w) (ktrTop dp un gd cn cs L a ccd cl outer) (call (.ref 554) [.ref MA]) Q E s := wit (by exact Wit.get : Wit (by
  obtain ⟨dM, MD, nM, S, dS, km1, km2, km3, hMA, hMD, hMO, hSA, hSD⟩ := hM
  refine wpAny_call ?_
  k_dflt k_enter
  k_steps
  all_goals (first | exact ret _ _ _ _ (by assumption) (News.sub (by assumption) (by walk_at "my_subP")) (by first | assumption | exact neN (by omega)) )))

theorem c_two_l {MA TL x : Addr} {n : Nat} (hd : dp + 50 < recursionLimit) (hu : un + 500 < cLine) (N : News h₀ L s.heap ((TL, listOf #[.ref x] n) :: news))
    (hM : MachAt w news MA TL)
    (hT : ∀ q ∈ news, q.1 ≠ TL)
    (ret : True)
    (exc0 : Exc w base h₀ L m (envX cn cs L a ccd cl :: outer) s E stackunderflow (news))
    : wpAny (model Pg w) (ktrTop dp un gd cn cs L a ccd cl outer) (call (.ref 456) [.ref MA]) Q E s := wit (by exact Wit.get : Wit (by
  obtain ⟨dM, MD, nM, S, dS, km1, km2, km3, hMA, hMD, hMO, hSA, hSD⟩ := hM
  refine wpAny_call ?_
  k_dflt k_enter
  k_steps
  all_goals (first | exact exc0 _ _ _ _ _ _ _ (by assumption) (Rs.sub (by assumption) (by walk_at "k_sub")) (by assumption))))

theorem c_one_l {MA TL : Addr} {n : Nat} (hd : dp + 50 < recursionLimit) (hu : un + 500 < cLine) (N : News h₀ L s.heap ((TL, listOf #[] n) :: news))
    (hM : MachAt w news MA TL)
    (hT : ∀ q ∈ news, q.1 ≠ TL)
    (ret : True)
    (exc0 : Exc w base h₀ L m (envX cn cs L a ccd cl :: outer) s E stackunderflow (news))
    : wpAny (model Pg w) (ktrTop dp un gd cn cs L a ccd cl outer) (call (.ref 449) [.ref MA]) Q E s := wit (by exact Wit.get : Wit (by
  obtain ⟨dM, MD, nM, S, dS, km1, km2, km3, hMA, hMD, hMO, hSA, hSD⟩ := hM
  refine wpAny_call ?_
  k_dflt k_enter
  k_steps
  all_goals (first | exact exc0 _ _ _ _ _ _ _ (by assumption) (Rs.sub (by assumption) (by walk_at "k_sub")) (by assumption))))

theorem c_ints_l {MA TL x : Addr} {n : Nat} (hd : dp + 50 < recursionLimit) (hu : un + 500 < cLine) (N : News h₀ L s.heap ((TL, listOf #[.ref x] n) :: news))
    (hM : MachAt w news MA TL)
    (hT : ∀ q ∈ news, q.1 ≠ TL)
    (ret : True)
    (exc0 : Exc w base h₀ L m (envX cn cs L a ccd cl :: outer) s E stackunderflow (news))
    : wpAny (model Pg w) (ktrTop dp un gd cn cs L a ccd cl outer) (call (.ref 463) [.ref MA]) Q E s := wit (by exact Wit.get : Wit (by
  obtain ⟨dM, MD, nM, S, dS, km1, km2, km3, hMA, hMD, hMO, hSA, hSD⟩ := hM
  refine wpAny_call ?_
  k_dflt k_enter
  k_steps
  all_goals (first | exact exc0 _ _ _ _ _ _ _ (by assumption) (Rs.sub (by assumption) (by walk_at "k_sub")) (by assumption))))

theorem c_things_l {MA TL x : Addr} {n : Nat} (hd : dp + 50 < recursionLimit) (hu : un + 500 < cLine) (N : News h₀ L s.heap ((TL, listOf #[.ref x] n) :: news))
    (hM : MachAt w news MA TL)
    (hT : ∀ q ∈ news, q.1 ≠ TL)
    (ret : True)
    (exc0 : Exc w base h₀ L m (envX cn cs L a ccd cl :: outer) s E stackunderflow (news))
    : wpAny (model Pg w) (ktrTop dp un gd cn cs L a ccd cl outer) (call (.ref 554) [.ref MA]) Q E s := wit (by exact Wit.get : Wit (by
  obtain ⟨dM, MD, nM, S, dS, km1, km2, km3, hMA, hMD, hMO, hSA, hSD⟩ := hM
  refine wpAny_call ?_
  k_dflt k_enter
  k_steps
  all_goals (first | exact exc0 _ _ _ _ _ _ _ (by assumption) (Rs.sub (by assumption) (by walk_at "k_sub")) (by assumption))))

theorem c_spush2 {S dS TL b1 b2 z dz : Addr} {k1 k2 t : Tok} {n : Nat} {ez : List DictEntry} {nz : Nat} {led : Led} (hd : dp + 10 < recursionLimit) (hu : un + 100 < cLine) (N : News h₀ L s.heap ((z, instObj 198 dz) :: (dz, dictOf ez nz) :: led))
    (hS : (S, instObj 396 dS) ∈ news)
    (hD : (dS, stD w k1 k2 t TL) ∈ news)
    (hL : (TL, listOf #[.ref b1, .ref b2] n) ∈ led)
    (hs : ∀ q ∈ news, q ∈ led)
    (hT : ∀ q ∈ news, q.1 ≠ TL)
    (ret : ∀ n' h' tk', Fr h₀ L h' m → News h₀ L h' ((TL, listOf #[.ref b1, .ref b2, .ref z] n') :: (z, instObj 198 dz) :: (dz, dictOf ez nz) :: news) → Q .none { s with heap := h', toks := tk' })
    : wpAny (model Pg w) (ktrTop dp un gd cn cs L a ccd cl outer) (call (.ref 323) [.ref S, .ref z]) Q E s := wit (by exact Wit.get : Wit (by
  have N := mk4 N hL hs
  have hz : z ≠ TL := apart2 N (by walk_at "my_mem") (by walk_at "my_mem") (by intro q; cases q)
  have hdz : dz ≠ TL := apart2 N (by walk_at "my_mem") (by walk_at "my_mem") (fun q => absurd (Value.type.inj q) (by decide))
  clear hL hs
  refine wpAny_call ?_
  k_dflt k_enter
  k_steps
  all_goals (first | exact ret _ _ _ (by assumption) (News.sub (by assumption) (by walk_at "my_subP")))))


theorem c_push {MA TL b1 b2 D : Addr} {o : Op} {u1 u2 : Tok} {n : Nat} {led : Led} (hd : dp + 40 < recursionLimit) (hu : un + 400 < cLine) (N : News h₀ L s.heap (led))
    (hM : MachAt w news MA TL)
    (hD : (D, tupO o u1 u2) ∈ led)
    (hL : (TL, listOf #[.ref b1, .ref b2] n) ∈ led)
    (hs : ∀ q ∈ news, q ∈ led)
    (hT : ∀ q ∈ news, q.1 ≠ TL)
    (ho : o.num = true)
    (hne : D ≠ TL)
    (ret : ∀ z dz k1 k2 k3 k4 t1' t2' n' h' tk', Fr h₀ L h' m → News h₀ L h' ((TL, listOf #[.ref b1, .ref b2, .ref z] n') :: (z, instObj 198 dz) :: (dz, thD w k1 k2 k3 k4 t1' t2' o.kd (o.val u2)) :: news) → Q .none { s with heap := h', toks := tk' })
    : wpAny (model Pg w) (ktrTop dp un gd cn cs L a ccd cl outer) (call (.ref 442) [.ref MA, .ref D]) Q E s := wit (by exact Wit.get : Wit (by
  k_with "my call ref" => ((fail_if_success (k_extra "off3")); k_here; (with_reducible show wpAny _ _ (call (Value.ref 323) [Value.ref _, Value.ref _]) _ _ _); k_dflt (refine' c_spush2 (by k_asm) (by k_asm) (by k_asm) (by k_asm) (by first | exact rfl | assumption | fail) (by k_room) (by k_extra "units") (by k_asm) (by assumption) (by assumption) (by k_mem) (by walk_at "k_sub") (by assumption) ?_); intro n'_k h'_k tk'_k F'_k N'_k; (try dsimp only); (try k_sweep))
  have N := mk3 N hD hL hs
  obtain ⟨dM, MD, nM, S, dS, km1, km2, km3, hMA, hMD, hMO, hSA, hSD⟩ := hM
  clear hD hL hs
  cases o with
  | bool b => cases ho
  | int i =>
    dsimp only [tupO, Op.kd, Op.val] at N ret
    refine wpAny_call ?_
    k_dflt k_enter
    k_steps
    all_goals (first | exact ret _ _ _ _ _ _ _ _ _ _ _ (by assumption) (News.sub (by assumption) (by walk_at "my_subP")))
  | real i =>
    dsimp only [tupO, Op.kd, Op.val] at N ret
    refine wpAny_call ?_
    k_dflt k_enter
    k_steps
    all_goals (first | exact ret _ _ _ _ _ _ _ _ _ _ _ (by assumption) (News.sub (by assumption) (by walk_at "my_subP")))))


section
theorem c_isnum {x : Addr} {o : Op} {t : Tok} (hd : dp + 10 < recursionLimit) (hu : un + 100 < cLine) (N : News h₀ L s.heap (news))
    (hx : ThingAt w news x o.kd (o.val t))
    (ret : ∀ h' tk', Fr h₀ L h' m → News h₀ L h' news → Q (.bool o.num) { s with heap := h', toks := tk' })
    : wpAny (model Pg w) (ktrTop dp un gd cn cs L a ccd cl outer) (call (.ref 230) [.ref x]) Q E s := wit (by exact Wit.get : Wit (by
  k_with "my call ref" => ((fail_if_success (k_extra "off3")); k_here; (with_reducible show wpAny _ _ (call (Value.ref 442) [Value.ref _, Value.ref _]) _ _ _); k_dflt (refine' c_push (by k_asm) (by k_asm) (by k_asm) (by k_asm) (by first | exact rfl | assumption | fail) (by k_room) (by k_extra "units") (by k_asm) (by assumption) (by k_mem) (by k_mem) (by walk_at "k_sub") (by assumption) (by first | assumption | exact numAdd (by assumption) (by assumption) (by assumption) | fail) (by assumption) ?_); intro z'_k dz'_k k1'_k k2'_k k3'_k k4'_k t1'_k t2'_k n'_k h'_k tk'_k F'_k N'_k; (try dsimp only); (try k_sweep))
  obtain ⟨dx, kx1, kx2, kx3, kx4, tx1, tx2, hxA, hxD⟩ := hx
  cases o with
  | int i =>
    dsimp only [Op.kd, Op.val, Op.num, Op.mil, Op.ks, Op.kv, Tn] at *
    refine wpAny_call ?_
    k_dflt k_enter
    k_steps
    all_goals (exact ret _ _ (by assumption) (by assumption))
  | real i =>
    dsimp only [Op.kd, Op.val, Op.num, Op.mil, Op.ks, Op.kv, Tn] at *
    refine wpAny_call ?_
    k_dflt k_enter
    k_steps
    all_goals (exact ret _ _ (by assumption) (by assumption))
  | bool b =>
    dsimp only [Op.kd, Op.val, Op.num, Op.mil, Op.ks, Op.kv, Tn] at *
    refine wpAny_call ?_
    k_dflt k_enter
    k_steps
    all_goals (exact ret _ _ (by assumption) (by assumption))))


theorem c_inmil {x : Addr} {o : Op} {t : Tok} (hd : dp + 10 < recursionLimit) (hu : un + 100 < cLine) (N : News h₀ L s.heap (news))
    (hx : ThingAt w news x o.kd (o.val t))
    (ho : o.num = true)
    (hs : Tn o.mil)
    (ret : ∀ t' h' tk', Fr h₀ L h' m → News h₀ L h' news → Q (.int o.mil t') { s with heap := h', toks := tk' })
    : wpAny (model Pg w) (ktrTop dp un gd cn cs L a ccd cl outer) (call (.ref 237) [.ref x]) Q E s := wit (by exact Wit.get : Wit (by
  k_with "my call ref" => ((fail_if_success (k_extra "off4")); k_here; (with_reducible show wpAny _ _ (call (Value.ref 230) [Value.ref _]) _ _ _); k_dflt (refine' c_isnum (by k_asm) (by k_asm) (by k_asm) (by k_asm) (by first | exact rfl | assumption | fail) (by k_room) (by k_extra "units") (by k_asm) (by first | assumption | exact ThingAt.sub (by assumption) (by walk_at "k_sub") | fail) ?_); intro h'_k tk'_k F'_k N'_k; (try dsimp only [Op.num]); (try dsimp only); (try k_sweep))
  obtain ⟨dx, kx1, kx2, kx3, kx4, tx1, tx2, hxA, hxD⟩ := hx
  cases o with
  | int i =>
    dsimp only [Op.kd, Op.val, Op.num, Op.mil, Op.ks, Op.kv, Tn] at *
    refine wpAny_call ?_
    k_dflt k_enter
    k_steps
    all_goals (exact ret _ _ _ (by assumption) (by assumption))
  | real i =>
    dsimp only [Op.kd, Op.val, Op.num, Op.mil, Op.ks, Op.kv, Tn] at *
    refine wpAny_call ?_
    k_dflt k_enter
    k_steps
    all_goals (exact ret _ _ _ (by assumption) (by assumption))
  | bool b => cases ho))


theorem c_keyof {x : Addr} {o : Op} {t : Tok} (hd : dp + 20 < recursionLimit) (hu : un + 200 < cLine) (N : News h₀ L s.heap (news))
    (hx : ThingAt w news x o.kd (o.val t))
    (hs : Tn o.mil)
    (ret : ∀ D t1 t2 h' tk', Fr h₀ L h' m → News h₀ L h' ((D, keyT o t1 t2) :: news) → Q (.ref D) { s with heap := h', toks := tk' })
    : wpAny (model Pg w) (ktrTop dp un gd cn cs L a ccd cl outer) (call (.ref 279) [.ref x]) Q E s := wit (by exact Wit.get : Wit (by
  k_with "my call ref" => ((fail_if_success (k_extra "off4")); k_here; (with_reducible show wpAny _ _ (call (Value.ref 237) [Value.ref _]) _ _ _); k_dflt (refine' c_inmil (by k_asm) (by k_asm) (by k_asm) (by k_asm) (by first | exact rfl | assumption | fail) (by k_room) (by k_extra "units") (by k_asm) (by first | assumption | exact ThingAt.sub (by assumption) (by walk_at "k_sub") | fail) (by first | assumption | rfl | fail) (by first | assumption | fail) ?_); intro t'_k h'_k tk'_k F'_k N'_k; (try dsimp only); (try k_sweep))
  have hx0 := hx
  obtain ⟨dx, kx1, kx2, kx3, kx4, tx1, tx2, hxA, hxD⟩ := hx
  cases o with
  | int i =>
    dsimp only [Op.kd, Op.val] at hxD
    refine wpAny_call ?_
    k_dflt k_enter
    k_steps
    all_goals (exact ret _ _ _ _ _ (by assumption) (by assumption))
  | real i =>
    dsimp only [Op.kd, Op.val] at hxD
    refine wpAny_call ?_
    k_dflt k_enter
    k_steps
    all_goals (exact ret _ _ _ _ _ (by assumption) (by assumption))
  | bool b => 
    dsimp only [Op.kd, Op.val] at hxD
    cases b
    all_goals (
      refine wpAny_call ?_
      k_dflt k_enter
      k_steps
      all_goals (exact ret _ _ _ _ _ (by assumption) (by assumption)))))


theorem c_eqthings {x1 x : Addr} {o1 o2 : Op} {t1 t2 : Tok} (hd : dp + 30 < recursionLimit) (hu : un + 300 < cLine) (N : News h₀ L s.heap (news))
    (hx1 : ThingAt w news x1 o1.kd (o1.val t1))
    (hx : ThingAt w news x o2.kd (o2.val t2))
    (hs1 : Tn o1.mil)
    (hs2 : Tn o2.mil)
    (ret : ∀ h' tk', Fr h₀ L h' m → News h₀ L h' news → Q (.bool (eqB o1 o2)) { s with heap := h', toks := tk' })
    : wpAny (model Pg w) (ktrTop dp un gd cn cs L a ccd cl outer) (call (.ref 286) [.ref x1, .ref x]) Q E s := wit (by exact Wit.get : Wit (by
  k_with "my call ref" => ((fail_if_success (k_extra "off4")); k_here; (with_reducible show wpAny _ _ (call (Value.ref 279) [Value.ref _]) _ _ _); k_dflt (refine' c_keyof (by k_asm) (by k_asm) (by k_asm) (by k_asm) (by first | exact rfl | assumption | fail) (by k_room) (by k_extra "units") (by k_asm) (by first | assumption | exact ThingAt.sub (by assumption) (by walk_at "k_sub") | fail) (by assumption) ?_); intro D'_k t1'_k t2'_k h'_k tk'_k F'_k N'_k; (try dsimp only); (try k_sweep))
  k_with "my compareOp Eq ref ref" => ((fail_if_success (k_extra "off4")); k_here; (with_reducible show wpAny _ _ (compareOp CmpOp.Eq (Value.ref _) (Value.ref _)) _ _ _); k_dflt (refine' eq_key (by k_asm) (by k_asm) (by k_mem) (by k_mem) (by k_extra "units") ?_); (try k_sweep))
  have hx10 := hx1
  have hx0 := hx
  obtain ⟨dx1, ky1, ky2, ky3, ky4, ty1, ty2, hyA, hyD⟩ := hx1
  obtain ⟨dx, kx1, kx2, kx3, kx4, tx1, tx2, hxA, hxD⟩ := hx
  refine wpAny_call ?_
  k_dflt k_enter
  k_steps
  all_goals (first | exact (kdNe _ (by assumption) (by decide) (by decide) (by decide)).elim | exact ret _ _ (by assumption) (News.sub (by assumption) (by walk_at "k_sub")))))


theorem c_less {x1 x : Addr} {o1 o2 : Op} {t1 t2 : Tok} (hd : dp + 30 < recursionLimit) (hu : un + 300 < cLine) (N : News h₀ L s.heap (news))
    (hx1 : ThingAt w news x1 o1.kd (o1.val t1))
    (hx : ThingAt w news x o2.kd (o2.val t2))
    (hs1 : Tn o1.mil)
    (hs2 : Tn o2.mil)
    (ret : o1.num = true → o2.num = true → ∀ h' tk', Fr h₀ L h' m → News h₀ L h' news → Q (.bool (lessB o1 o2)) { s with heap := h', toks := tk' })
    (exc0 : (o1.num && o2.num) = false → Exc w base h₀ L m (envX cn cs L a ccd cl :: outer) s E typecheck (news))
    : wpAny (model Pg w) (ktrTop dp un gd cn cs L a ccd cl outer) (call (.ref 293) [.ref x1, .ref x]) Q E s := wit (by exact Wit.get : Wit (by
  k_with "my call ref" => ((fail_if_success (k_extra "off4")); k_here; (with_reducible show wpAny _ _ (call (Value.ref 286) [Value.ref _, Value.ref _]) _ _ _); k_dflt (refine' c_eqthings (by k_asm) (by k_asm) (by k_asm) (by k_asm) (by first | exact rfl | assumption | fail) (by k_room) (by k_extra "units") (by k_asm) (by first | assumption | exact ThingAt.sub (by assumption) (by walk_at "k_sub") | fail) (by first | assumption | exact ThingAt.sub (by assumption) (by walk_at "k_sub") | fail) (by assumption) (by assumption) ?_); intro h'_k tk'_k F'_k N'_k; (try dsimp only); (try k_sweep))
  have hx10 := hx1
  have hx0 := hx
  obtain ⟨dx1, ky1, ky2, ky3, ky4, ty1, ty2, hyA, hyD⟩ := hx1
  cases o1 with
  | int i =>
    dsimp only [Op.kd, Op.val] at hyD
    refine wpAny_call ?_
    k_dflt k_enter
    k_steps
    all_goals (first | exact ret rfl (by assumption) _ _ (by assumption) (by assumption) | exact exc0 (by simp only [Op.num, Bool.true_and, Bool.false_and]; try assumption) _ _ _ _ _ _ _ (by assumption) (by assumption) (by assumption))
  | real i =>
    dsimp only [Op.kd, Op.val] at hyD
    refine wpAny_call ?_
    k_dflt k_enter
    k_steps
    all_goals (first | exact ret rfl (by assumption) _ _ (by assumption) (by assumption) | exact exc0 (by simp only [Op.num, Bool.true_and, Bool.false_and]; try assumption) _ _ _ _ _ _ _ (by assumption) (by assumption) (by assumption))
  | bool b =>
    dsimp only [Op.kd, Op.val] at hyD
    refine wpAny_call ?_
    k_dflt k_enter
    k_steps
    all_goals (first | exact ret rfl (by assumption) _ _ (by assumption) (by assumption) | exact exc0 (by simp only [Op.num, Bool.true_and, Bool.false_and]; try assumption) _ _ _ _ _ _ _ (by assumption) (by assumption) (by assumption))))



end
section
theorem c_intsI {MA TL b1 b2 x1 x : Addr} {i j : Int} {t1 t2 : Tok} {n : Nat} (hd : dp + 50 < recursionLimit) (hu : un + 500 < cLine) (N : News h₀ L s.heap ((TL, listOf #[.ref b1, .ref b2, .ref x1, .ref x] n) :: news))
    (hM : MachAt w news MA TL) (hx1 : ThingAt w news x1 (Op.int i).kd (Op.val (.int i) t1)) (hx : ThingAt w news x (Op.int j).kd (Op.val (.int j) t2)) (hT : ∀ q ∈ news, q.1 ≠ TL)
    (ret : ∀ P n' h' tk', Fr h₀ L h' m → News h₀ L h' ((P, ({ cls := .type "tuple", data := .seq #[.int i t1, .int j t2] } : Obj)) :: (TL, listOf #[.ref b1, .ref b2] n') :: news) → P ≠ TL → Q (.ref P) { s with heap := h', toks := tk' })
    : wpAny (model Pg w) (ktrTop dp un gd cn cs L a ccd cl outer) (call (.ref 463) [.ref MA]) Q E s :=
  c_ints (o1 := .int i) (o2 := .int j) B F X T hk hd hu N hM hx1 hx hT (fun _ _ => ret) (fun h => nomatch h)
theorem c_intsB {MA TL b1 b2 x1 x : Addr} {o1 o2 : Op} {t1 t2 : Tok} {n : Nat} (hd : dp + 50 < recursionLimit) (hu : un + 500 < cLine) (N : News h₀ L s.heap ((TL, listOf #[.ref b1, .ref b2, .ref x1, .ref x] n) :: news))
    (hM : MachAt w news MA TL) (hx1 : ThingAt w news x1 o1.kd (o1.val t1)) (hx : ThingAt w news x o2.kd (o2.val t2)) (hT : ∀ q ∈ news, q.1 ≠ TL) (hbad : (o1.isI && o2.isI) = false)
    (exc0 : Exc w base h₀ L m (envX cn cs L a ccd cl :: outer) s E typecheck news)
    : wpAny (model Pg w) (ktrTop dp un gd cn cs L a ccd cl outer) (call (.ref 463) [.ref MA]) Q E s :=
  c_ints B F X T hk hd hu N hM hx1 hx hT (fun h1 h2 => by rw [h1, h2] at hbad; cases hbad) (fun _ => exc0)







theorem o_add {MA TL b1 b2 x1 x : Addr} {o1 o2 : Op} {t1 t2 : Tok} {n : Nat} (hd : dp + 60 < recursionLimit) (hu : un + 600 < cLine) (N : News h₀ L s.heap ((TL, listOf #[.ref b1, .ref b2, .ref x1, .ref x] n) :: news))
    (hM : MachAt w news MA TL)
    (hx1 : ThingAt w news x1 o1.kd (o1.val t1))
    (hx : ThingAt w news x o2.kd (o2.val t2))
    (hT : ∀ q ∈ news, q.1 ≠ TL)
    (hs1 : Tn o1.mil)
    (hs2 : Tn o2.mil)
    (ret : ∀ o z dz k1 k2 k3 k4 t1' t2' u n' h' tk', numF2 addF o1 o2 = .ok o → Fr h₀ L h' m → News h₀ L h' ((TL, listOf #[.ref b1, .ref b2, .ref z] n') :: (z, instObj 198 dz) :: (dz, thD w k1 k2 k3 k4 t1' t2' o.kd (o.val u)) :: news) → Q .none { s with heap := h', toks := tk' })
    (exc0 : ∀ b, numF2 addF o1 o2 = .bad b → Exc w base h₀ L m (envX cn cs L a ccd cl :: outer) s E b (news))
    : wpAny (model Pg w) (ktrTop dp un gd cn cs L a ccd cl outer) (call (.ref 470) [.ref MA]) Q E s := wit (by exact Wit.get : Wit (by
  k_with "my call ref" => ((fail_if_success (k_extra "off4")); k_here; (with_reducible show wpAny _ _ (call (Value.ref 293) [Value.ref _, Value.ref _]) _ _ _); k_dflt (refine' c_less (by k_asm) (by k_asm) (by k_asm) (by k_asm) (by first | exact rfl | assumption | fail) (by k_room) (by k_extra "units") (by k_asm) (by first | assumption | exact ThingAt.sub (by assumption) (by walk_at "k_sub") | fail) (by first | assumption | exact ThingAt.sub (by assumption) (by walk_at "k_sub") | fail) (by assumption) (by assumption) ?_ ?_); intro ho1'_k ho2'_k h'_k tk'_k F'_k N'_k; (try dsimp only); (try k_sweep); rotate_left; intro ha'_k g'_k e'_k d'_k tk'_k t'_k h'_k tk2'_k FG'_k R'_k k'_k; (try dsimp only); rotate_left)
  k_with "off4" => skip
  k_with "my call ref" => ((fail_if_success (k_extra "off5")); k_here; (with_reducible show wpAny _ _ (call (Value.ref 456) [Value.ref _]) _ _ _); k_dflt (refine' c_two (by k_asm) (by k_asm) (by k_asm) (by k_asm) (by first | exact rfl | assumption | fail) (by k_room) (by k_extra "units") (by k_asm) (by assumption) (by assumption) (by assumption) (by assumption) ?_ ?_); intro ho1'_k ho2'_k P'_k D1'_k D2'_k u1'_k u2'_k u3'_k u4'_k n'_k h'_k tk'_k F'_k N'_k hne1'_k hne2'_k hne3'_k; (try dsimp only); (try k_sweep); rotate_left; intro ha'_k g'_k e'_k d'_k tk'_k t'_k h'_k tk2'_k FG'_k R'_k k'_k; (try dsimp only); rotate_left)
  k_with "my call ref" => ((fail_if_success (k_extra "off5")); k_here; (with_reducible show wpAny _ _ (call (Value.ref 449) [Value.ref _]) _ _ _); k_dflt (refine' c_one (by k_asm) (by k_asm) (by k_asm) (by k_asm) (by first | exact rfl | assumption | fail) (by k_room) (by k_extra "units") (by k_asm) (by assumption) (by assumption) (by assumption) ?_ ?_); intro ho1'_k D1'_k u1'_k u2'_k n'_k h'_k tk'_k F'_k N'_k hne1'_k; (try dsimp only); (try k_sweep); rotate_left; intro ha'_k g'_k e'_k d'_k tk'_k t'_k h'_k tk2'_k FG'_k R'_k k'_k; (try dsimp only); rotate_left)
  k_with "my call ref" => ((fail_if_success (k_extra "off5")); k_here; (with_reducible show wpAny _ _ (call (Value.ref 554) [Value.ref _]) _ _ _); k_dflt (refine' c_things (by k_asm) (by k_asm) (by k_asm) (by k_asm) (by first | exact rfl | assumption | fail) (by k_room) (by k_extra "units") (by k_asm) (by assumption) (by assumption) ?_); intro P'_k n'_k h'_k tk'_k F'_k N'_k hne1'_k; (try dsimp only); (try k_sweep))
  k_with "my call ref" => ((fail_if_success (k_extra "off5")); k_here; (with_reducible show wpAny _ _ (call (Value.ref 463) [Value.ref _]) _ _ _); k_dflt (refine' c_intsI (by k_asm) (by k_asm) (by k_asm) (by k_asm) (by first | exact rfl | assumption | fail) (by k_room) (by k_extra "units") (by k_asm) (by assumption) (by assumption) (by assumption) (by assumption) ?_); intro P'_k n'_k h'_k tk'_k F'_k N'_k hne1'_k; (try dsimp only); (try k_sweep))
  k_with "my call ref" => ((fail_if_success (k_extra "off5")); k_here; (with_reducible show wpAny _ _ (call (Value.ref 463) [Value.ref _]) _ _ _); k_dflt (refine' c_intsB (by k_asm) (by k_asm) (by k_asm) (by k_asm) (by first | exact rfl | assumption | fail) (by k_room) (by k_extra "units") (by k_asm) (by assumption) (by assumption) (by assumption) (by assumption) (by assumption) ?_); intro g'_k e'_k d'_k tk'_k t'_k h'_k tk2'_k FG'_k R'_k k'_k; (try dsimp only); (try k_sweep))
  k_with "my call ref" => ((fail_if_success (k_extra "off5")); k_here; (with_reducible show wpAny _ _ (call (Value.ref 442) [Value.ref _, Value.ref _]) _ _ _); k_dflt (refine' c_push (by k_asm) (by k_asm) (by k_asm) (by k_asm) (by first | exact rfl | assumption | fail) (by k_room) (by k_extra "units") (by k_asm) (by assumption) (by k_mem) (by k_mem) (by walk_at "k_sub") (by assumption) (by first | assumption | exact resNum2 (.inl (by assumption)) | exact resNum2 (.inr (.inl (by assumption))) | exact resNum2 (.inr (.inr (.inl (by assumption)))) | exact resNum2 (.inr (.inr (.inr (by assumption)))) | exact resNum1 (by assumption) (.inl (by assumption)) | exact resNum1 (by assumption) (.inr (.inl (by assumption))) | exact resNum1 (by assumption) (.inr (.inr (.inl (by assumption)))) | exact resNum1 (by assumption) (.inr (.inr (.inr (.inl (by assumption))))) | exact resNum1 (by assumption) (.inr (.inr (.inr (.inr (.inl (by assumption)))))) | exact resNum1 (by assumption) (.inr (.inr (.inr (.inr (.inr (by assumption)))))) | fail) (by assumption) ?_); intro z'_k dz'_k k1'_k k2'_k k3'_k k4'_k t1'_k t2'_k n'_k h'_k tk'_k F'_k N'_k; (try dsimp only); (try k_sweep))
  k_with "my call ref" => ((fail_if_success (k_extra "off5")); k_here; (with_reducible show wpAny _ _ (call (Value.ref 103) [Value.ref _, Value.ref _]) _ _ _); k_dflt (refine' c_added (by k_asm) (by k_asm) (by k_asm) (by k_asm) (by first | exact rfl | assumption | fail) (by k_room) (by k_extra "units") (by k_asm) (by k_mem) (by k_mem) (by first | assumption | rfl | fail) (by first | assumption | rfl | fail) (by first | assumption | (k_extra "bnd") | exact mulSm (by first | assumption | (k_extra "bnd")) (by first | assumption | (k_extra "bnd")) | fail) (by first | assumption | (k_extra "bnd") | exact mulSm (by first | assumption | (k_extra "bnd")) (by first | assumption | (k_extra "bnd")) | fail) (by first | exact memL (by walk_at "my_mem") | fail) ?_ ?_); intro o'_k D'_k t1'_k t2'_k h'_k tk'_k hr'_k hne'_k F'_k N'_k; (try dsimp only); (try k_sweep); rotate_left; intro b'_k hb'_k g'_k e'_k d'_k tk'_k t'_k h'_k tk2'_k FG'_k R'_k k'_k; (try dsimp only); rotate_left)
  refine wpAny_call ?_
  k_dflt k_enter
  k_steps
  all_goals (first | exact exc0 _ (n2ty (by assumption)) _ _ _ _ _ _ _ (by assumption) (Rs.sub (by assumption) (by walk_at "k_sub")) (by assumption) | exact exc0 _ (n2ok (by assumption) (by assumption) (by assumption)) _ _ _ _ _ _ _ (by assumption) (Rs.sub (by assumption) (by walk_at "k_sub")) (by assumption) | exact ret _ _ _ _ _ _ _ _ _ _ _ _ _ (n2ok (by assumption) (by assumption) (by assumption)) (by assumption) (by assumption))))


theorem o_sub {MA TL b1 b2 x1 x : Addr} {o1 o2 : Op} {t1 t2 : Tok} {n : Nat} (hd : dp + 60 < recursionLimit) (hu : un + 600 < cLine) (N : News h₀ L s.heap ((TL, listOf #[.ref b1, .ref b2, .ref x1, .ref x] n) :: news))
    (hM : MachAt w news MA TL)
    (hx1 : ThingAt w news x1 o1.kd (o1.val t1))
    (hx : ThingAt w news x o2.kd (o2.val t2))
    (hT : ∀ q ∈ news, q.1 ≠ TL)
    (hs1 : Tn o1.mil)
    (hs2 : Tn o2.mil)
    (ret : ∀ o z dz k1 k2 k3 k4 t1' t2' u n' h' tk', numF2 subF o1 o2 = .ok o → Fr h₀ L h' m → News h₀ L h' ((TL, listOf #[.ref b1, .ref b2, .ref z] n') :: (z, instObj 198 dz) :: (dz, thD w k1 k2 k3 k4 t1' t2' o.kd (o.val u)) :: news) → Q .none { s with heap := h', toks := tk' })
    (exc0 : ∀ b, numF2 subF o1 o2 = .bad b → Exc w base h₀ L m (envX cn cs L a ccd cl :: outer) s E b (news))
    : wpAny (model Pg w) (ktrTop dp un gd cn cs L a ccd cl outer) (call (.ref 477) [.ref MA]) Q E s := wit (by exact Wit.get : Wit (by
  k_with "my call ref" => ((fail_if_success (k_extra "off5")); k_here; (with_reducible show wpAny _ _ (call (Value.ref 110) [Value.ref _, Value.ref _]) _ _ _); k_dflt (refine' c_subtracted (by k_asm) (by k_asm) (by k_asm) (by k_asm) (by first | exact rfl | assumption | fail) (by k_room) (by k_extra "units") (by k_asm) (by k_mem) (by k_mem) (by first | assumption | rfl | fail) (by first | assumption | rfl | fail) (by first | assumption | (k_extra "bnd") | exact mulSm (by first | assumption | (k_extra "bnd")) (by first | assumption | (k_extra "bnd")) | fail) (by first | assumption | (k_extra "bnd") | exact mulSm (by first | assumption | (k_extra "bnd")) (by first | assumption | (k_extra "bnd")) | fail) (by first | exact memL (by walk_at "my_mem") | fail) ?_ ?_); intro o'_k D'_k t1'_k t2'_k h'_k tk'_k hr'_k hne'_k F'_k N'_k; (try dsimp only); (try k_sweep); rotate_left; intro b'_k hb'_k g'_k e'_k d'_k tk'_k t'_k h'_k tk2'_k FG'_k R'_k k'_k; (try dsimp only); rotate_left)
  refine wpAny_call ?_
  k_dflt k_enter
  k_steps
  all_goals (first | exact exc0 _ (n2ty (by assumption)) _ _ _ _ _ _ _ (by assumption) (Rs.sub (by assumption) (by walk_at "k_sub")) (by assumption) | exact exc0 _ (n2ok (by assumption) (by assumption) (by assumption)) _ _ _ _ _ _ _ (by assumption) (Rs.sub (by assumption) (by walk_at "k_sub")) (by assumption) | exact ret _ _ _ _ _ _ _ _ _ _ _ _ _ (n2ok (by assumption) (by assumption) (by assumption)) (by assumption) (by assumption))))


theorem o_mul {MA TL b1 b2 x1 x : Addr} {o1 o2 : Op} {t1 t2 : Tok} {n : Nat} (hd : dp + 60 < recursionLimit) (hu : un + 600 < cLine) (N : News h₀ L s.heap ((TL, listOf #[.ref b1, .ref b2, .ref x1, .ref x] n) :: news))
    (hM : MachAt w news MA TL)
    (hx1 : ThingAt w news x1 o1.kd (o1.val t1))
    (hx : ThingAt w news x o2.kd (o2.val t2))
    (hT : ∀ q ∈ news, q.1 ≠ TL)
    (hs1 : Tn o1.mil)
    (hs2 : Tn o2.mil)
    (ret : ∀ o z dz k1 k2 k3 k4 t1' t2' u n' h' tk', numF2 mulF o1 o2 = .ok o → Fr h₀ L h' m → News h₀ L h' ((TL, listOf #[.ref b1, .ref b2, .ref z] n') :: (z, instObj 198 dz) :: (dz, thD w k1 k2 k3 k4 t1' t2' o.kd (o.val u)) :: news) → Q .none { s with heap := h', toks := tk' })
    (exc0 : ∀ b, numF2 mulF o1 o2 = .bad b → Exc w base h₀ L m (envX cn cs L a ccd cl :: outer) s E b (news))
    : wpAny (model Pg w) (ktrTop dp un gd cn cs L a ccd cl outer) (call (.ref 484) [.ref MA]) Q E s := wit (by exact Wit.get : Wit (by
  k_with "my call ref" => ((fail_if_success (k_extra "off5")); k_here; (with_reducible show wpAny _ _ (call (Value.ref 117) [Value.ref _, Value.ref _]) _ _ _); k_dflt (refine' c_multiplied (by k_asm) (by k_asm) (by k_asm) (by k_asm) (by first | exact rfl | assumption | fail) (by k_room) (by k_extra "units") (by k_asm) (by k_mem) (by k_mem) (by first | assumption | rfl | fail) (by first | assumption | rfl | fail) (by first | assumption | (k_extra "bnd") | exact mulSm (by first | assumption | (k_extra "bnd")) (by first | assumption | (k_extra "bnd")) | fail) (by first | assumption | (k_extra "bnd") | exact mulSm (by first | assumption | (k_extra "bnd")) (by first | assumption | (k_extra "bnd")) | fail) (by first | exact memL (by walk_at "my_mem") | fail) ?_ ?_); intro o'_k D'_k t1'_k t2'_k h'_k tk'_k hr'_k hne'_k F'_k N'_k; (try dsimp only); (try k_sweep); rotate_left; intro b'_k hb'_k g'_k e'_k d'_k tk'_k t'_k h'_k tk2'_k FG'_k R'_k k'_k; (try dsimp only); rotate_left)
  refine wpAny_call ?_
  k_dflt k_enter
  k_steps
  all_goals (first | exact exc0 _ (n2ty (by assumption)) _ _ _ _ _ _ _ (by assumption) (Rs.sub (by assumption) (by walk_at "k_sub")) (by assumption) | exact exc0 _ (n2ok (by assumption) (by assumption) (by assumption)) _ _ _ _ _ _ _ (by assumption) (Rs.sub (by assumption) (by walk_at "k_sub")) (by assumption) | exact ret _ _ _ _ _ _ _ _ _ _ _ _ _ (n2ok (by assumption) (by assumption) (by assumption)) (by assumption) (by assumption))))


theorem o_div {MA TL b1 b2 x1 x : Addr} {o1 o2 : Op} {t1 t2 : Tok} {n : Nat} (hd : dp + 60 < recursionLimit) (hu : un + 600 < cLine) (N : News h₀ L s.heap ((TL, listOf #[.ref b1, .ref b2, .ref x1, .ref x] n) :: news))
    (hM : MachAt w news MA TL)
    (hx1 : ThingAt w news x1 o1.kd (o1.val t1))
    (hx : ThingAt w news x o2.kd (o2.val t2))
    (hT : ∀ q ∈ news, q.1 ≠ TL)
    (hs1 : Tn o1.mil)
    (hs2 : Tn o2.mil)
    (ret : ∀ o z dz k1 k2 k3 k4 t1' t2' u n' h' tk', numF2 quotF o1 o2 = .ok o → Fr h₀ L h' m → News h₀ L h' ((TL, listOf #[.ref b1, .ref b2, .ref z] n') :: (z, instObj 198 dz) :: (dz, thD w k1 k2 k3 k4 t1' t2' o.kd (o.val u)) :: news) → Q .none { s with heap := h', toks := tk' })
    (exc0 : ∀ b, numF2 quotF o1 o2 = .bad b → Exc w base h₀ L m (envX cn cs L a ccd cl :: outer) s E b (news))
    : wpAny (model Pg w) (ktrTop dp un gd cn cs L a ccd cl outer) (call (.ref 491) [.ref MA]) Q E s := wit (by exact Wit.get : Wit (by
  k_with "my call ref" => ((fail_if_success (k_extra "off5")); k_here; (with_reducible show wpAny _ _ (call (Value.ref 124) [Value.ref _, Value.ref _]) _ _ _); k_dflt (refine' c_quotient (by k_asm) (by k_asm) (by k_asm) (by k_asm) (by first | exact rfl | assumption | fail) (by k_room) (by k_extra "units") (by k_asm) (by k_mem) (by k_mem) (by first | assumption | rfl | fail) (by first | assumption | rfl | fail) (by first | assumption | (k_extra "bnd") | exact mulSm (by first | assumption | (k_extra "bnd")) (by first | assumption | (k_extra "bnd")) | fail) (by first | assumption | (k_extra "bnd") | exact mulSm (by first | assumption | (k_extra "bnd")) (by first | assumption | (k_extra "bnd")) | fail) (by first | exact memL (by walk_at "my_mem") | fail) ?_ ?_); intro o'_k D'_k t1'_k t2'_k h'_k tk'_k hr'_k hne'_k F'_k N'_k; (try dsimp only); (try k_sweep); rotate_left; intro b'_k hb'_k g'_k e'_k d'_k tk'_k t'_k h'_k tk2'_k FG'_k R'_k k'_k; (try dsimp only); rotate_left)
  refine wpAny_call ?_
  k_dflt k_enter
  k_steps
  all_goals (first | exact exc0 _ (n2ty (by assumption)) _ _ _ _ _ _ _ (by assumption) (Rs.sub (by assumption) (by walk_at "k_sub")) (by assumption) | exact exc0 _ (n2ok (by assumption) (by assumption) (by assumption)) _ _ _ _ _ _ _ (by assumption) (Rs.sub (by assumption) (by walk_at "k_sub")) (by assumption) | exact ret _ _ _ _ _ _ _ _ _ _ _ _ _ (n2ok (by assumption) (by assumption) (by assumption)) (by assumption) (by assumption))))


theorem o_neg {MA TL b1 b2 x : Addr} {o : Op} {t : Tok} {n : Nat} (hd : dp + 60 < recursionLimit) (hu : un + 600 < cLine) (N : News h₀ L s.heap ((TL, listOf #[.ref b1, .ref b2, .ref x] n) :: news))
    (hM : MachAt w news MA TL)
    (hx : ThingAt w news x o.kd (o.val t))
    (hT : ∀ q ∈ news, q.1 ≠ TL)
    (hs1 : Tn o.mil)
    (ret : ∀ r z dz k1 k2 k3 k4 t1' t2' u n' h' tk', numF1 negF o = .ok r → Fr h₀ L h' m → News h₀ L h' ((TL, listOf #[.ref b1, .ref b2, .ref z] n') :: (z, instObj 198 dz) :: (dz, thD w k1 k2 k3 k4 t1' t2' r.kd (r.val u)) :: news) → Q .none { s with heap := h', toks := tk' })
    (exc0 : ∀ b, numF1 negF o = .bad b → Exc w base h₀ L m (envX cn cs L a ccd cl :: outer) s E b (news))
    : wpAny (model Pg w) (ktrTop dp un gd cn cs L a ccd cl outer) (call (.ref 512) [.ref MA]) Q E s := wit (by exact Wit.get : Wit (by
  k_with "my call ref" => ((fail_if_success (k_extra "off5")); k_here; (with_reducible show wpAny _ _ (call (Value.ref 145) [Value.ref _]) _ _ _); k_dflt (refine' c_negated (by k_asm) (by k_asm) (by k_asm) (by k_asm) (by first | exact rfl | assumption | fail) (by k_room) (by k_extra "units") (by k_asm) (by k_mem) (by first | assumption | rfl | fail) (by first | assumption | (k_extra "bnd") | exact mulSm (by first | assumption | (k_extra "bnd")) (by first | assumption | (k_extra "bnd")) | fail) (by first | exact memL (by walk_at "my_mem") | fail) (by first | assumption | exact Nat.ne_of_gt (by assumption) | omega | fail) ?_ ?_); intro o'_k D'_k t1'_k t2'_k h'_k tk'_k hr'_k hne'_k F'_k N'_k; (try dsimp only); (try k_sweep); rotate_left; intro b'_k hb'_k g'_k e'_k d'_k tk'_k t'_k h'_k tk2'_k FG'_k R'_k k'_k; (try dsimp only); rotate_left)
  refine wpAny_call ?_
  k_dflt k_enter
  k_steps
  all_goals (first | exact exc0 _ (n1ty (by assumption)) _ _ _ _ _ _ _ (by assumption) (Rs.sub (by assumption) (by walk_at "k_sub")) (by assumption) | exact exc0 _ (n1ok (by assumption) (by assumption)) _ _ _ _ _ _ _ (by assumption) (Rs.sub (by assumption) (by walk_at "k_sub")) (by assumption) | exact ret _ _ _ _ _ _ _ _ _ _ _ _ _ (n1ok (by assumption) (by assumption)) (by assumption) (by assumption))))


theorem o_abs {MA TL b1 b2 x : Addr} {o : Op} {t : Tok} {n : Nat} (hd : dp + 60 < recursionLimit) (hu : un + 600 < cLine) (N : News h₀ L s.heap ((TL, listOf #[.ref b1, .ref b2, .ref x] n) :: news))
    (hM : MachAt w news MA TL)
    (hx : ThingAt w news x o.kd (o.val t))
    (hT : ∀ q ∈ news, q.1 ≠ TL)
    (hs1 : Tn o.mil)
    (ret : ∀ r z dz k1 k2 k3 k4 t1' t2' u n' h' tk', numF1 absF o = .ok r → Fr h₀ L h' m → News h₀ L h' ((TL, listOf #[.ref b1, .ref b2, .ref z] n') :: (z, instObj 198 dz) :: (dz, thD w k1 k2 k3 k4 t1' t2' r.kd (r.val u)) :: news) → Q .none { s with heap := h', toks := tk' })
    (exc0 : ∀ b, numF1 absF o = .bad b → Exc w base h₀ L m (envX cn cs L a ccd cl :: outer) s E b (news))
    : wpAny (model Pg w) (ktrTop dp un gd cn cs L a ccd cl outer) (call (.ref 519) [.ref MA]) Q E s := wit (by exact Wit.get : Wit (by
  k_with "my call ref" => ((fail_if_success (k_extra "off5")); k_here; (with_reducible show wpAny _ _ (call (Value.ref 152) [Value.ref _]) _ _ _); k_dflt (refine' c_absolute (by k_asm) (by k_asm) (by k_asm) (by k_asm) (by first | exact rfl | assumption | fail) (by k_room) (by k_extra "units") (by k_asm) (by k_mem) (by first | assumption | rfl | fail) (by first | assumption | (k_extra "bnd") | exact mulSm (by first | assumption | (k_extra "bnd")) (by first | assumption | (k_extra "bnd")) | fail) (by first | exact memL (by walk_at "my_mem") | fail) (by first | assumption | exact Nat.ne_of_gt (by assumption) | omega | fail) ?_ ?_); intro o'_k D'_k t1'_k t2'_k h'_k tk'_k hr'_k hne'_k F'_k N'_k; (try dsimp only); (try k_sweep); rotate_left; intro b'_k hb'_k g'_k e'_k d'_k tk'_k t'_k h'_k tk2'_k FG'_k R'_k k'_k; (try dsimp only); rotate_left)
  refine wpAny_call ?_
  k_dflt k_enter
  k_steps
  all_goals (first | exact exc0 _ (n1ty (by assumption)) _ _ _ _ _ _ _ (by assumption) (Rs.sub (by assumption) (by walk_at "k_sub")) (by assumption) | exact exc0 _ (n1ok (by assumption) (by assumption)) _ _ _ _ _ _ _ (by assumption) (Rs.sub (by assumption) (by walk_at "k_sub")) (by assumption) | exact ret _ _ _ _ _ _ _ _ _ _ _ _ _ (n1ok (by assumption) (by assumption)) (by assumption) (by assumption))))


theorem o_ceil {MA TL b1 b2 x : Addr} {o : Op} {t : Tok} {n : Nat} (hd : dp + 60 < recursionLimit) (hu : un + 600 < cLine) (N : News h₀ L s.heap ((TL, listOf #[.ref b1, .ref b2, .ref x] n) :: news))
    (hM : MachAt w news MA TL)
    (hx : ThingAt w news x o.kd (o.val t))
    (hT : ∀ q ∈ news, q.1 ≠ TL)
    (hs1 : Tn o.mil)
    (ret : ∀ r z dz k1 k2 k3 k4 t1' t2' u n' h' tk', numF1 ceilF o = .ok r → Fr h₀ L h' m → News h₀ L h' ((TL, listOf #[.ref b1, .ref b2, .ref z] n') :: (z, instObj 198 dz) :: (dz, thD w k1 k2 k3 k4 t1' t2' r.kd (r.val u)) :: news) → Q .none { s with heap := h', toks := tk' })
    (exc0 : ∀ b, numF1 ceilF o = .bad b → Exc w base h₀ L m (envX cn cs L a ccd cl :: outer) s E b (news))
    : wpAny (model Pg w) (ktrTop dp un gd cn cs L a ccd cl outer) (call (.ref 526) [.ref MA]) Q E s := wit (by exact Wit.get : Wit (by
  k_with "my call ref" => ((fail_if_success (k_extra "off5")); k_here; (with_reducible show wpAny _ _ (call (Value.ref 166) [Value.ref _]) _ _ _); k_dflt (refine' c_ceil (by k_asm) (by k_asm) (by k_asm) (by k_asm) (by first | exact rfl | assumption | fail) (by k_room) (by k_extra "units") (by k_asm) (by k_mem) (by first | assumption | rfl | fail) (by first | assumption | (k_extra "bnd") | exact mulSm (by first | assumption | (k_extra "bnd")) (by first | assumption | (k_extra "bnd")) | fail) (by first | exact memL (by walk_at "my_mem") | fail) (by first | assumption | exact Nat.ne_of_gt (by assumption) | omega | fail) ?_ ?_); intro o'_k D'_k t1'_k t2'_k h'_k tk'_k hr'_k hne'_k F'_k N'_k; (try dsimp only); (try k_sweep); rotate_left; intro b'_k hb'_k g'_k e'_k d'_k tk'_k t'_k h'_k tk2'_k FG'_k R'_k k'_k; (try dsimp only); rotate_left)
  refine wpAny_call ?_
  k_dflt k_enter
  k_steps
  all_goals (first | exact exc0 _ (n1ty (by assumption)) _ _ _ _ _ _ _ (by assumption) (Rs.sub (by assumption) (by walk_at "k_sub")) (by assumption) | exact exc0 _ (n1ok (by assumption) (by assumption)) _ _ _ _ _ _ _ (by assumption) (Rs.sub (by assumption) (by walk_at "k_sub")) (by assumption) | exact ret _ _ _ _ _ _ _ _ _ _ _ _ _ (n1ok (by assumption) (by assumption)) (by assumption) (by assumption))))


theorem o_floor {MA TL b1 b2 x : Addr} {o : Op} {t : Tok} {n : Nat} (hd : dp + 60 < recursionLimit) (hu : un + 600 < cLine) (N : News h₀ L s.heap ((TL, listOf #[.ref b1, .ref b2, .ref x] n) :: news))
    (hM : MachAt w news MA TL)
    (hx : ThingAt w news x o.kd (o.val t))
    (hT : ∀ q ∈ news, q.1 ≠ TL)
    (hs1 : Tn o.mil)
    (ret : ∀ r z dz k1 k2 k3 k4 t1' t2' u n' h' tk', numF1 floorF o = .ok r → Fr h₀ L h' m → News h₀ L h' ((TL, listOf #[.ref b1, .ref b2, .ref z] n') :: (z, instObj 198 dz) :: (dz, thD w k1 k2 k3 k4 t1' t2' r.kd (r.val u)) :: news) → Q .none { s with heap := h', toks := tk' })
    (exc0 : ∀ b, numF1 floorF o = .bad b → Exc w base h₀ L m (envX cn cs L a ccd cl :: outer) s E b (news))
    : wpAny (model Pg w) (ktrTop dp un gd cn cs L a ccd cl outer) (call (.ref 533) [.ref MA]) Q E s := wit (by exact Wit.get : Wit (by
  k_with "my call ref" => ((fail_if_success (k_extra "off5")); k_here; (with_reducible show wpAny _ _ (call (Value.ref 159) [Value.ref _]) _ _ _); k_dflt (refine' c_floor (by k_asm) (by k_asm) (by k_asm) (by k_asm) (by first | exact rfl | assumption | fail) (by k_room) (by k_extra "units") (by k_asm) (by k_mem) (by first | assumption | rfl | fail) (by first | assumption | (k_extra "bnd") | exact mulSm (by first | assumption | (k_extra "bnd")) (by first | assumption | (k_extra "bnd")) | fail) (by first | exact memL (by walk_at "my_mem") | fail) (by first | assumption | exact Nat.ne_of_gt (by assumption) | omega | fail) ?_ ?_); intro o'_k D'_k t1'_k t2'_k h'_k tk'_k hr'_k hne'_k F'_k N'_k; (try dsimp only); (try k_sweep); rotate_left; intro b'_k hb'_k g'_k e'_k d'_k tk'_k t'_k h'_k tk2'_k FG'_k R'_k k'_k; (try dsimp only); rotate_left)
  refine wpAny_call ?_
  k_dflt k_enter
  k_steps
  all_goals (first | exact exc0 _ (n1ty (by assumption)) _ _ _ _ _ _ _ (by assumption) (Rs.sub (by assumption) (by walk_at "k_sub")) (by assumption) | exact exc0 _ (n1ok (by assumption) (by assumption)) _ _ _ _ _ _ _ (by assumption) (Rs.sub (by assumption) (by walk_at "k_sub")) (by assumption) | exact ret _ _ _ _ _ _ _ _ _ _ _ _ _ (n1ok (by assumption) (by assumption)) (by assumption) (by assumption))))


theorem o_round {MA TL b1 b2 x : Addr} {o : Op} {t : Tok} {n : Nat} (hd : dp + 60 < recursionLimit) (hu : un + 600 < cLine) (N : News h₀ L s.heap ((TL, listOf #[.ref b1, .ref b2, .ref x] n) :: news))
    (hM : MachAt w news MA TL)
    (hx : ThingAt w news x o.kd (o.val t))
    (hT : ∀ q ∈ news, q.1 ≠ TL)
    (hs1 : Tn o.mil)
    (ret : ∀ r z dz k1 k2 k3 k4 t1' t2' u n' h' tk', numF1 roundF o = .ok r → Fr h₀ L h' m → News h₀ L h' ((TL, listOf #[.ref b1, .ref b2, .ref z] n') :: (z, instObj 198 dz) :: (dz, thD w k1 k2 k3 k4 t1' t2' r.kd (r.val u)) :: news) → Q .none { s with heap := h', toks := tk' })
    (exc0 : ∀ b, numF1 roundF o = .bad b → Exc w base h₀ L m (envX cn cs L a ccd cl :: outer) s E b (news))
    : wpAny (model Pg w) (ktrTop dp un gd cn cs L a ccd cl outer) (call (.ref 540) [.ref MA]) Q E s := wit (by exact Wit.get : Wit (by
  k_with "my call ref" => ((fail_if_success (k_extra "off5")); k_here; (with_reducible show wpAny _ _ (call (Value.ref 173) [Value.ref _]) _ _ _); k_dflt (refine' c_round (by k_asm) (by k_asm) (by k_asm) (by k_asm) (by first | exact rfl | assumption | fail) (by k_room) (by k_extra "units") (by k_asm) (by k_mem) (by first | assumption | rfl | fail) (by first | assumption | (k_extra "bnd") | exact mulSm (by first | assumption | (k_extra "bnd")) (by first | assumption | (k_extra "bnd")) | fail) (by first | exact memL (by walk_at "my_mem") | fail) (by first | assumption | exact Nat.ne_of_gt (by assumption) | omega | fail) ?_ ?_); intro o'_k D'_k t1'_k t2'_k h'_k tk'_k hr'_k hne'_k F'_k N'_k; (try dsimp only); (try k_sweep); rotate_left; intro b'_k hb'_k g'_k e'_k d'_k tk'_k t'_k h'_k tk2'_k FG'_k R'_k k'_k; (try dsimp only); rotate_left)
  refine wpAny_call ?_
  k_dflt k_enter
  k_steps
  all_goals (first | exact exc0 _ (n1ty (by assumption)) _ _ _ _ _ _ _ (by assumption) (Rs.sub (by assumption) (by walk_at "k_sub")) (by assumption) | exact exc0 _ (n1ok (by assumption) (by assumption)) _ _ _ _ _ _ _ (by assumption) (Rs.sub (by assumption) (by walk_at "k_sub")) (by assumption) | exact ret _ _ _ _ _ _ _ _ _ _ _ _ _ (n1ok (by assumption) (by assumption)) (by assumption) (by assumption))))


theorem o_trunc {MA TL b1 b2 x : Addr} {o : Op} {t : Tok} {n : Nat} (hd : dp + 60 < recursionLimit) (hu : un + 600 < cLine) (N : News h₀ L s.heap ((TL, listOf #[.ref b1, .ref b2, .ref x] n) :: news))
    (hM : MachAt w news MA TL)
    (hx : ThingAt w news x o.kd (o.val t))
    (hT : ∀ q ∈ news, q.1 ≠ TL)
    (hs1 : Tn o.mil)
    (ret : ∀ r z dz k1 k2 k3 k4 t1' t2' u n' h' tk', numF1 truncF o = .ok r → Fr h₀ L h' m → News h₀ L h' ((TL, listOf #[.ref b1, .ref b2, .ref z] n') :: (z, instObj 198 dz) :: (dz, thD w k1 k2 k3 k4 t1' t2' r.kd (r.val u)) :: news) → Q .none { s with heap := h', toks := tk' })
    (exc0 : ∀ b, numF1 truncF o = .bad b → Exc w base h₀ L m (envX cn cs L a ccd cl :: outer) s E b (news))
    : wpAny (model Pg w) (ktrTop dp un gd cn cs L a ccd cl outer) (call (.ref 547) [.ref MA]) Q E s := wit (by exact Wit.get : Wit (by
  k_with "my call ref" => ((fail_if_success (k_extra "off5")); k_here; (with_reducible show wpAny _ _ (call (Value.ref 180) [Value.ref _]) _ _ _); k_dflt (refine' c_trunc (by k_asm) (by k_asm) (by k_asm) (by k_asm) (by first | exact rfl | assumption | fail) (by k_room) (by k_extra "units") (by k_asm) (by k_mem) (by first | assumption | rfl | fail) (by first | assumption | (k_extra "bnd") | exact mulSm (by first | assumption | (k_extra "bnd")) (by first | assumption | (k_extra "bnd")) | fail) (by first | exact memL (by walk_at "my_mem") | fail) (by first | assumption | exact Nat.ne_of_gt (by assumption) | omega | fail) ?_ ?_); intro o'_k D'_k t1'_k t2'_k h'_k tk'_k hr'_k hne'_k F'_k N'_k; (try dsimp only); (try k_sweep); rotate_left; intro b'_k hb'_k g'_k e'_k d'_k tk'_k t'_k h'_k tk2'_k FG'_k R'_k k'_k; (try dsimp only); rotate_left)
  refine wpAny_call ?_
  k_dflt k_enter
  k_steps
  all_goals (first | exact exc0 _ (n1ty (by assumption)) _ _ _ _ _ _ _ (by assumption) (Rs.sub (by assumption) (by walk_at "k_sub")) (by assumption) | exact exc0 _ (n1ok (by assumption) (by assumption)) _ _ _ _ _ _ _ (by assumption) (Rs.sub (by assumption) (by walk_at "k_sub")) (by assumption) | exact ret _ _ _ _ _ _ _ _ _ _ _ _ _ (n1ok (by assumption) (by assumption)) (by assumption) (by assumption))))


end
section






theorem o_idiv {MA TL b1 b2 x1 x : Addr} {o1 o2 : Op} {t1 t2 : Tok} {n : Nat} (hd : dp + 60 < recursionLimit) (hu : un + 600 < cLine) (N : News h₀ L s.heap ((TL, listOf #[.ref b1, .ref b2, .ref x1, .ref x] n) :: news))
    (hM : MachAt w news MA TL)
    (hx1 : ThingAt w news x1 o1.kd (o1.val t1))
    (hx : ThingAt w news x o2.kd (o2.val t2))
    (hT : ∀ q ∈ news, q.1 ≠ TL)
    (hs1 : Tn o1.mil)
    (hs2 : Tn o2.mil)
    (ret : ∀ o z dz k1 k2 k3 k4 t1' t2' u n' h' tk', intF2 idivF o1 o2 = .ok o → Fr h₀ L h' m → News h₀ L h' ((TL, listOf #[.ref b1, .ref b2, .ref z] n') :: (z, instObj 198 dz) :: (dz, thD w k1 k2 k3 k4 t1' t2' o.kd (o.val u)) :: news) → Q .none { s with heap := h', toks := tk' })
    (exc0 : ∀ b, intF2 idivF o1 o2 = .bad b → Exc w base h₀ L m (envX cn cs L a ccd cl :: outer) s E b (news))
    : wpAny (model Pg w) (ktrTop dp un gd cn cs L a ccd cl outer) (call (.ref 498) [.ref MA]) Q E s := wit (by exact Wit.get : Wit (by
  k_with "off5" => skip
  k_with "my call ref" => ((fail_if_success (k_extra "off6")); k_here; (with_reducible show wpAny _ _ (call (Value.ref 456) [Value.ref _]) _ _ _); k_dflt (refine' c_two (by k_asm) (by k_asm) (by k_asm) (by k_asm) (by first | exact rfl | assumption | fail) (by k_room) (by k_extra "units") (by k_asm) (by assumption) (by assumption) (by assumption) (by assumption) ?_ ?_); intro ho1'_k ho2'_k P'_k D1'_k D2'_k u1'_k u2'_k u3'_k u4'_k n'_k h'_k tk'_k F'_k N'_k hne1'_k hne2'_k hne3'_k; (try dsimp only); (try k_sweep); rotate_left; intro ha'_k g'_k e'_k d'_k tk'_k t'_k h'_k tk2'_k FG'_k R'_k k'_k; (try dsimp only); rotate_left)
  k_with "my call ref" => ((fail_if_success (k_extra "off6")); k_here; (with_reducible show wpAny _ _ (call (Value.ref 449) [Value.ref _]) _ _ _); k_dflt (refine' c_one (by k_asm) (by k_asm) (by k_asm) (by k_asm) (by first | exact rfl | assumption | fail) (by k_room) (by k_extra "units") (by k_asm) (by assumption) (by assumption) (by assumption) ?_ ?_); intro ho1'_k D1'_k u1'_k u2'_k n'_k h'_k tk'_k F'_k N'_k hne1'_k; (try dsimp only); (try k_sweep); rotate_left; intro ha'_k g'_k e'_k d'_k tk'_k t'_k h'_k tk2'_k FG'_k R'_k k'_k; (try dsimp only); rotate_left)
  k_with "my call ref" => ((fail_if_success (k_extra "off6")); k_here; (with_reducible show wpAny _ _ (call (Value.ref 554) [Value.ref _]) _ _ _); k_dflt (refine' c_things (by k_asm) (by k_asm) (by k_asm) (by k_asm) (by first | exact rfl | assumption | fail) (by k_room) (by k_extra "units") (by k_asm) (by assumption) (by assumption) ?_); intro P'_k n'_k h'_k tk'_k F'_k N'_k hne1'_k; (try dsimp only); (try k_sweep))
  k_with "my call ref" => ((fail_if_success (k_extra "off6")); k_here; (with_reducible show wpAny _ _ (call (Value.ref 463) [Value.ref _]) _ _ _); k_dflt (refine' c_intsI (by k_asm) (by k_asm) (by k_asm) (by k_asm) (by first | exact rfl | assumption | fail) (by k_room) (by k_extra "units") (by k_asm) (by assumption) (by assumption) (by assumption) (by assumption) ?_); intro P'_k n'_k h'_k tk'_k F'_k N'_k hne1'_k; (try dsimp only); (try k_sweep))
  k_with "my call ref" => ((fail_if_success (k_extra "off6")); k_here; (with_reducible show wpAny _ _ (call (Value.ref 463) [Value.ref _]) _ _ _); k_dflt (refine' c_intsB (by k_asm) (by k_asm) (by k_asm) (by k_asm) (by first | exact rfl | assumption | fail) (by k_room) (by k_extra "units") (by k_asm) (by assumption) (by assumption) (by assumption) (by assumption) (by assumption) ?_); intro g'_k e'_k d'_k tk'_k t'_k h'_k tk2'_k FG'_k R'_k k'_k; (try dsimp only); (try k_sweep))
  k_with "my eval Call" => ((fail_if_success (k_extra "off6")); k_here; (with_reducible show wpAny _ _ (eval (Expr.Call (Expr.Name (PySem.Str.ofString "int_quotient") _) _ _ _) _) _ _ _); k_dflt (refine Call_ ?_))
  k_with "my eval Call" => ((fail_if_success (k_extra "off6")); k_here; (with_reducible show wpAny _ _ (eval (Expr.Call (Expr.Name (PySem.Str.ofString "int_rest") _) _ _ _) _) _ _ _); k_dflt (refine Call_ ?_))
  k_with "my call ref" => ((fail_if_success (k_extra "off6")); k_here; (with_reducible show wpAny _ _ (call (Value.ref 131) [Value.int _ _, Value.int _ _]) _ _ _); k_dflt (refine' c_iq (by k_asm) (by k_asm) (by k_asm) (by k_asm) (by first | exact rfl | assumption | fail) (by k_room) (by k_extra "units") (by k_asm) (by first | assumption | exact tnSm (by assumption) | fail) (by first | assumption | exact tnSm (by assumption) | fail) ?_ ?_); intro v'_k t'_k h'_k tk'_k hr'_k F'_k N'_k; (try dsimp only); (try k_sweep); rotate_left; intro b'_k hb'_k g'_k e'_k d'_k tk'_k t'_k h'_k tk2'_k FG'_k R'_k k'_k; (try dsimp only); rotate_left)
  rcases bothI (o1 := o1) (o2 := o2) with ⟨x', y', rfl, rfl⟩ | hbad
  · have hz1 := tnSm hs1
    have hz2 := tnSm hs2
    have hM0 := hM
    obtain ⟨dM, MD, nM, S, dS, km1, km2, km3, hMA, hMD, hMO, hSA, hSD⟩ := hM
    refine wpAny_call ?_
    k_dflt k_enter
    k_steps
    all_goals (first | exact exc0 _ (i2ok (by assumption)) _ _ _ _ _ _ _ (by assumption) (Rs.sub (by assumption) (by walk_at "k_sub")) (by assumption) | exact ret (.int _) _ _ _ _ _ _ _ _ _ _ _ _ (i2ok (by assumption)) (by assumption) (by assumption))
  · refine wpAny_call ?_
    k_dflt k_enter
    k_steps
    all_goals (exact exc0 _ (i2ty hbad) _ _ _ _ _ _ _ (by assumption) (Rs.sub (by assumption) (by walk_at "k_sub")) (by assumption))))


theorem o_mod {MA TL b1 b2 x1 x : Addr} {o1 o2 : Op} {t1 t2 : Tok} {n : Nat} (hd : dp + 60 < recursionLimit) (hu : un + 600 < cLine) (N : News h₀ L s.heap ((TL, listOf #[.ref b1, .ref b2, .ref x1, .ref x] n) :: news))
    (hM : MachAt w news MA TL)
    (hx1 : ThingAt w news x1 o1.kd (o1.val t1))
    (hx : ThingAt w news x o2.kd (o2.val t2))
    (hT : ∀ q ∈ news, q.1 ≠ TL)
    (hs1 : Tn o1.mil)
    (hs2 : Tn o2.mil)
    (ret : ∀ o z dz k1 k2 k3 k4 t1' t2' u n' h' tk', intF2 modF o1 o2 = .ok o → Fr h₀ L h' m → News h₀ L h' ((TL, listOf #[.ref b1, .ref b2, .ref z] n') :: (z, instObj 198 dz) :: (dz, thD w k1 k2 k3 k4 t1' t2' o.kd (o.val u)) :: news) → Q .none { s with heap := h', toks := tk' })
    (exc0 : ∀ b, intF2 modF o1 o2 = .bad b → Exc w base h₀ L m (envX cn cs L a ccd cl :: outer) s E b (news))
    : wpAny (model Pg w) (ktrTop dp un gd cn cs L a ccd cl outer) (call (.ref 505) [.ref MA]) Q E s := wit (by exact Wit.get : Wit (by
  k_with "my call ref" => ((fail_if_success (k_extra "off6")); k_here; (with_reducible show wpAny _ _ (call (Value.ref 138) [Value.int _ _, Value.int _ _]) _ _ _); k_dflt (refine' c_ir (by k_asm) (by k_asm) (by k_asm) (by k_asm) (by first | exact rfl | assumption | fail) (by k_room) (by k_extra "units") (by k_asm) (by first | assumption | exact tnSm (by assumption) | fail) (by first | assumption | exact tnSm (by assumption) | fail) ?_ ?_); intro v'_k t'_k h'_k tk'_k hr'_k F'_k N'_k; (try dsimp only); (try k_sweep); rotate_left; intro b'_k hb'_k g'_k e'_k d'_k tk'_k t'_k h'_k tk2'_k FG'_k R'_k k'_k; (try dsimp only); rotate_left)
  rcases bothI (o1 := o1) (o2 := o2) with ⟨x', y', rfl, rfl⟩ | hbad
  · have hz1 := tnSm hs1
    have hz2 := tnSm hs2
    have hM0 := hM
    obtain ⟨dM, MD, nM, S, dS, km1, km2, km3, hMA, hMD, hMO, hSA, hSD⟩ := hM
    refine wpAny_call ?_
    k_dflt k_enter
    k_steps
    all_goals (first | exact exc0 _ (i2ok (by assumption)) _ _ _ _ _ _ _ (by assumption) (Rs.sub (by assumption) (by walk_at "k_sub")) (by assumption) | exact ret (.int _) _ _ _ _ _ _ _ _ _ _ _ _ (i2ok (by assumption)) (by assumption) (by assumption))
  · refine wpAny_call ?_
    k_dflt k_enter
    k_steps
    all_goals (exact exc0 _ (i2ty hbad) _ _ _ _ _ _ _ (by assumption) (Rs.sub (by assumption) (by walk_at "k_sub")) (by assumption))))



theorem o_eq {MA TL b1 b2 x1 x : Addr} {o1 o2 : Op} {t1 t2 : Tok} {n : Nat} (hd : dp + 60 < recursionLimit) (hu : un + 600 < cLine) (N : News h₀ L s.heap ((TL, listOf #[.ref b1, .ref b2, .ref x1, .ref x] n) :: news))
    (hM : MachAt w news MA TL)
    (hx1 : ThingAt w news x1 o1.kd (o1.val t1))
    (hx : ThingAt w news x o2.kd (o2.val t2))
    (hT : ∀ q ∈ news, q.1 ≠ TL)
    (hs1 : Tn o1.mil)
    (hs2 : Tn o2.mil)
    (ret : ∀ o z dz k1 k2 k3 k4 t1' t2' u n' h' tk', ((fun a b => .ok (.bool (eqB a b))) : Op → Op → Res) o1 o2 = .ok o → Fr h₀ L h' m → News h₀ L h' ((TL, listOf #[.ref b1, .ref b2, .ref z] n') :: (z, instObj 198 dz) :: (dz, thD w k1 k2 k3 k4 t1' t2' o.kd (o.val u)) :: news) → Q .none { s with heap := h', toks := tk' })
    (exc0 : ∀ b, ((fun a b => .ok (.bool (eqB a b))) : Op → Op → Res) o1 o2 = .bad b → Exc w base h₀ L m (envX cn cs L a ccd cl :: outer) s E b (news))
    : wpAny (model Pg w) (ktrTop dp un gd cn cs L a ccd cl outer) (call (.ref 561) [.ref MA]) Q E s := wit (by exact Wit.get : Wit (by
  k_with "my call ref" => ((fail_if_success (k_extra "off6")); k_here; (with_reducible show wpAny _ _ (call (Value.ref 286) [Value.ref _, Value.ref _]) _ _ _); k_dflt (refine' c_eqthings (by k_asm) (by k_asm) (by k_asm) (by k_asm) (by first | exact rfl | assumption | fail) (by k_room) (by k_extra "units") (by k_asm) (by first | assumption | exact ThingAt.sub (by assumption) (by walk_at "k_sub") | fail) (by first | assumption | exact ThingAt.sub (by assumption) (by walk_at "k_sub") | fail) (by assumption) (by assumption) ?_); intro h'_k tk'_k F'_k N'_k; (try dsimp only); (try k_sweep))
  k_with "my call ref" => ((fail_if_success (k_extra "off6")); k_here; (with_reducible show wpAny _ _ (call (Value.ref 293) [Value.ref _, Value.ref _]) _ _ _); k_dflt (refine' c_less (by k_asm) (by k_asm) (by k_asm) (by k_asm) (by first | exact rfl | assumption | fail) (by k_room) (by k_extra "units") (by k_asm) (by first | assumption | exact ThingAt.sub (by assumption) (by walk_at "k_sub") | fail) (by first | assumption | exact ThingAt.sub (by assumption) (by walk_at "k_sub") | fail) (by assumption) (by assumption) ?_ ?_); intro ho1'_k ho2'_k h'_k tk'_k F'_k N'_k; (try dsimp only); (try k_sweep); rotate_left; intro ha'_k g'_k e'_k d'_k tk'_k t'_k h'_k tk2'_k FG'_k R'_k k'_k; (try dsimp only); rotate_left)
  have hM0 := hM
  obtain ⟨dM, MD, nM, S, dS, km1, km2, km3, hMA, hMD, hMO, hSA, hSD⟩ := hM
  refine wpAny_call ?_
  k_dflt k_enter
  k_steps
  all_goals (first | exact ret (.bool _) _ _ _ _ _ _ _ _ 0 _ _ _ rfl (by assumption) (by assumption))))

theorem o_ne {MA TL b1 b2 x1 x : Addr} {o1 o2 : Op} {t1 t2 : Tok} {n : Nat} (hd : dp + 60 < recursionLimit) (hu : un + 600 < cLine) (N : News h₀ L s.heap ((TL, listOf #[.ref b1, .ref b2, .ref x1, .ref x] n) :: news))
    (hM : MachAt w news MA TL)
    (hx1 : ThingAt w news x1 o1.kd (o1.val t1))
    (hx : ThingAt w news x o2.kd (o2.val t2))
    (hT : ∀ q ∈ news, q.1 ≠ TL)
    (hs1 : Tn o1.mil)
    (hs2 : Tn o2.mil)
    (ret : ∀ o z dz k1 k2 k3 k4 t1' t2' u n' h' tk', ((fun a b => .ok (.bool (!eqB a b))) : Op → Op → Res) o1 o2 = .ok o → Fr h₀ L h' m → News h₀ L h' ((TL, listOf #[.ref b1, .ref b2, .ref z] n') :: (z, instObj 198 dz) :: (dz, thD w k1 k2 k3 k4 t1' t2' o.kd (o.val u)) :: news) → Q .none { s with heap := h', toks := tk' })
    (exc0 : ∀ b, ((fun a b => .ok (.bool (!eqB a b))) : Op → Op → Res) o1 o2 = .bad b → Exc w base h₀ L m (envX cn cs L a ccd cl :: outer) s E b (news))
    : wpAny (model Pg w) (ktrTop dp un gd cn cs L a ccd cl outer) (call (.ref 568) [.ref MA]) Q E s := wit (by exact Wit.get : Wit (by
  have hM0 := hM
  obtain ⟨dM, MD, nM, S, dS, km1, km2, km3, hMA, hMD, hMO, hSA, hSD⟩ := hM
  refine wpAny_call ?_
  k_dflt k_enter
  k_steps
  all_goals (first | exact ret (.bool _) _ _ _ _ _ _ _ _ 0 _ _ _ rfl (by assumption) (by assumption))))

theorem o_lt {MA TL b1 b2 x1 x : Addr} {o1 o2 : Op} {t1 t2 : Tok} {n : Nat} (hd : dp + 60 < recursionLimit) (hu : un + 600 < cLine) (N : News h₀ L s.heap ((TL, listOf #[.ref b1, .ref b2, .ref x1, .ref x] n) :: news))
    (hM : MachAt w news MA TL)
    (hx1 : ThingAt w news x1 o1.kd (o1.val t1))
    (hx : ThingAt w news x o2.kd (o2.val t2))
    (hT : ∀ q ∈ news, q.1 ≠ TL)
    (hs1 : Tn o1.mil)
    (hs2 : Tn o2.mil)
    (ret : ∀ o z dz k1 k2 k3 k4 t1' t2' u n' h' tk', numF2 (fun a b => .ok (.bool (lessB a b))) o1 o2 = .ok o → Fr h₀ L h' m → News h₀ L h' ((TL, listOf #[.ref b1, .ref b2, .ref z] n') :: (z, instObj 198 dz) :: (dz, thD w k1 k2 k3 k4 t1' t2' o.kd (o.val u)) :: news) → Q .none { s with heap := h', toks := tk' })
    (exc0 : ∀ b, numF2 (fun a b => .ok (.bool (lessB a b))) o1 o2 = .bad b → Exc w base h₀ L m (envX cn cs L a ccd cl :: outer) s E b (news))
    : wpAny (model Pg w) (ktrTop dp un gd cn cs L a ccd cl outer) (call (.ref 575) [.ref MA]) Q E s := wit (by exact Wit.get : Wit (by
  have hM0 := hM
  obtain ⟨dM, MD, nM, S, dS, km1, km2, km3, hMA, hMD, hMO, hSA, hSD⟩ := hM
  refine wpAny_call ?_
  k_dflt k_enter
  k_steps
  all_goals (first | exact exc0 _ (n2ty (by assumption)) _ _ _ _ _ _ _ (by assumption) (Rs.sub (by assumption) (by walk_at "k_sub")) (by assumption) | exact exc0 _ (n2ty (andC (by assumption))) _ _ _ _ _ _ _ (by assumption) (Rs.sub (by assumption) (by walk_at "k_sub")) (by assumption) | exact ret (.bool _) _ _ _ _ _ _ _ _ 0 _ _ _ (n2ok (by assumption) (by assumption) rfl) (by assumption) (by assumption))))

theorem o_gt {MA TL b1 b2 x1 x : Addr} {o1 o2 : Op} {t1 t2 : Tok} {n : Nat} (hd : dp + 60 < recursionLimit) (hu : un + 600 < cLine) (N : News h₀ L s.heap ((TL, listOf #[.ref b1, .ref b2, .ref x1, .ref x] n) :: news))
    (hM : MachAt w news MA TL)
    (hx1 : ThingAt w news x1 o1.kd (o1.val t1))
    (hx : ThingAt w news x o2.kd (o2.val t2))
    (hT : ∀ q ∈ news, q.1 ≠ TL)
    (hs1 : Tn o1.mil)
    (hs2 : Tn o2.mil)
    (ret : ∀ o z dz k1 k2 k3 k4 t1' t2' u n' h' tk', numF2 (fun a b => .ok (.bool (lessB b a))) o1 o2 = .ok o → Fr h₀ L h' m → News h₀ L h' ((TL, listOf #[.ref b1, .ref b2, .ref z] n') :: (z, instObj 198 dz) :: (dz, thD w k1 k2 k3 k4 t1' t2' o.kd (o.val u)) :: news) → Q .none { s with heap := h', toks := tk' })
    (exc0 : ∀ b, numF2 (fun a b => .ok (.bool (lessB b a))) o1 o2 = .bad b → Exc w base h₀ L m (envX cn cs L a ccd cl :: outer) s E b (news))
    : wpAny (model Pg w) (ktrTop dp un gd cn cs L a ccd cl outer) (call (.ref 582) [.ref MA]) Q E s := wit (by exact Wit.get : Wit (by
  have hM0 := hM
  obtain ⟨dM, MD, nM, S, dS, km1, km2, km3, hMA, hMD, hMO, hSA, hSD⟩ := hM
  refine wpAny_call ?_
  k_dflt k_enter
  k_steps
  all_goals (first | exact exc0 _ (n2ty (by assumption)) _ _ _ _ _ _ _ (by assumption) (Rs.sub (by assumption) (by walk_at "k_sub")) (by assumption) | exact exc0 _ (n2ty (andC (by assumption))) _ _ _ _ _ _ _ (by assumption) (Rs.sub (by assumption) (by walk_at "k_sub")) (by assumption) | exact ret (.bool _) _ _ _ _ _ _ _ _ 0 _ _ _ (n2ok (by assumption) (by assumption) rfl) (by assumption) (by assumption))))

theorem o_ge {MA TL b1 b2 x1 x : Addr} {o1 o2 : Op} {t1 t2 : Tok} {n : Nat} (hd : dp + 60 < recursionLimit) (hu : un + 600 < cLine) (N : News h₀ L s.heap ((TL, listOf #[.ref b1, .ref b2, .ref x1, .ref x] n) :: news))
    (hM : MachAt w news MA TL)
    (hx1 : ThingAt w news x1 o1.kd (o1.val t1))
    (hx : ThingAt w news x o2.kd (o2.val t2))
    (hT : ∀ q ∈ news, q.1 ≠ TL)
    (hs1 : Tn o1.mil)
    (hs2 : Tn o2.mil)
    (ret : ∀ o z dz k1 k2 k3 k4 t1' t2' u n' h' tk', numF2 (fun a b => .ok (.bool (!lessB a b))) o1 o2 = .ok o → Fr h₀ L h' m → News h₀ L h' ((TL, listOf #[.ref b1, .ref b2, .ref z] n') :: (z, instObj 198 dz) :: (dz, thD w k1 k2 k3 k4 t1' t2' o.kd (o.val u)) :: news) → Q .none { s with heap := h', toks := tk' })
    (exc0 : ∀ b, numF2 (fun a b => .ok (.bool (!lessB a b))) o1 o2 = .bad b → Exc w base h₀ L m (envX cn cs L a ccd cl :: outer) s E b (news))
    : wpAny (model Pg w) (ktrTop dp un gd cn cs L a ccd cl outer) (call (.ref 589) [.ref MA]) Q E s := wit (by exact Wit.get : Wit (by
  have hM0 := hM
  obtain ⟨dM, MD, nM, S, dS, km1, km2, km3, hMA, hMD, hMO, hSA, hSD⟩ := hM
  refine wpAny_call ?_
  k_dflt k_enter
  k_steps
  all_goals (first | exact exc0 _ (n2ty (by assumption)) _ _ _ _ _ _ _ (by assumption) (Rs.sub (by assumption) (by walk_at "k_sub")) (by assumption) | exact exc0 _ (n2ty (andC (by assumption))) _ _ _ _ _ _ _ (by assumption) (Rs.sub (by assumption) (by walk_at "k_sub")) (by assumption) | exact ret (.bool _) _ _ _ _ _ _ _ _ 0 _ _ _ (n2ok (by assumption) (by assumption) rfl) (by assumption) (by assumption))))

theorem o_le {MA TL b1 b2 x1 x : Addr} {o1 o2 : Op} {t1 t2 : Tok} {n : Nat} (hd : dp + 60 < recursionLimit) (hu : un + 600 < cLine) (N : News h₀ L s.heap ((TL, listOf #[.ref b1, .ref b2, .ref x1, .ref x] n) :: news))
    (hM : MachAt w news MA TL)
    (hx1 : ThingAt w news x1 o1.kd (o1.val t1))
    (hx : ThingAt w news x o2.kd (o2.val t2))
    (hT : ∀ q ∈ news, q.1 ≠ TL)
    (hs1 : Tn o1.mil)
    (hs2 : Tn o2.mil)
    (ret : ∀ o z dz k1 k2 k3 k4 t1' t2' u n' h' tk', numF2 (fun a b => .ok (.bool (!lessB b a))) o1 o2 = .ok o → Fr h₀ L h' m → News h₀ L h' ((TL, listOf #[.ref b1, .ref b2, .ref z] n') :: (z, instObj 198 dz) :: (dz, thD w k1 k2 k3 k4 t1' t2' o.kd (o.val u)) :: news) → Q .none { s with heap := h', toks := tk' })
    (exc0 : ∀ b, numF2 (fun a b => .ok (.bool (!lessB b a))) o1 o2 = .bad b → Exc w base h₀ L m (envX cn cs L a ccd cl :: outer) s E b (news))
    : wpAny (model Pg w) (ktrTop dp un gd cn cs L a ccd cl outer) (call (.ref 596) [.ref MA]) Q E s := wit (by exact Wit.get : Wit (by
  have hM0 := hM
  obtain ⟨dM, MD, nM, S, dS, km1, km2, km3, hMA, hMD, hMO, hSA, hSD⟩ := hM
  refine wpAny_call ?_
  k_dflt k_enter
  k_steps
  all_goals (first | exact exc0 _ (n2ty (by assumption)) _ _ _ _ _ _ _ (by assumption) (Rs.sub (by assumption) (by walk_at "k_sub")) (by assumption) | exact exc0 _ (n2ty (andC (by assumption))) _ _ _ _ _ _ _ (by assumption) (Rs.sub (by assumption) (by walk_at "k_sub")) (by assumption) | exact ret (.bool _) _ _ _ _ _ _ _ _ 0 _ _ _ (n2ok (by assumption) (by assumption) rfl) (by assumption) (by assumption))))


end
section
theorem op_use {ad MA TL : Addr} {xs : Array Value} {RP : Led → Prop} {EP : Array UInt8 → Prop} {n : Nat} {led : Led} (hd : dp + 60 < recursionLimit) (hu : un + 600 < cLine) (N : News h₀ L s.heap led)
    (O : OpDoes w p lo mean mg mb ad MA TL xs news RP EP) (hL : (TL, listOf xs n) ∈ led) (hs : ∀ q ∈ news, q ∈ led)
    (ret : ∀ led h' tk', RP led → Fr h₀ L h' m → News h₀ L h' led → Q .none { s with heap := h', toks := tk' })
    (exc0 : ∀ b, EP b → Exc w base h₀ L m (envX cn cs L a ccd cl :: outer) s E b news)
    : wpAny (model Pg w) (ktrTop dp un gd cn cs L a ccd cl outer) (call (.ref ad) [.ref MA]) Q E s :=
  O _ _ _ _ _ _ _ _ _ _ _ _ _ _ _ _ _ n B F X T hk hd hu (mk2 N hL hs) ret exc0
theorem op_useE {ad ad' MA TL : Addr} {xs : Array Value} {RP : Led → Prop} {EP : Array UInt8 → Prop} {n : Nat} {led : Led} (hd : dp + 60 < recursionLimit) (hu : un + 600 < cLine) (N : News h₀ L s.heap led)
    (O : OpDoes w p lo mean mg mb ad MA TL xs news RP EP) (hA : ad = ad') (hL : (TL, listOf xs n) ∈ led) (hs : ∀ q ∈ news, q ∈ led)
    (ret : ∀ led h' tk', RP led → Fr h₀ L h' m → News h₀ L h' led → Q .none { s with heap := h', toks := tk' })
    (exc0 : ∀ b, EP b → Exc w base h₀ L m (envX cn cs L a ccd cl :: outer) s E b news)
    : wpAny (model Pg w) (ktrTop dp un gd cn cs L a ccd cl outer) (call (.ref ad') [.ref MA]) Q E s :=
  hA ▸ op_use B F X T hk hd hu N O hL hs ret exc0




theorem l_add {MA TL x : Addr} {n : Nat} (hd : dp + 60 < recursionLimit) (hu : un + 600 < cLine) (N : News h₀ L s.heap ((TL, listOf #[.ref x] n) :: news))
    (hM : MachAt w news MA TL)
    (hT : ∀ q ∈ news, q.1 ≠ TL)
    (ret : True)
    (exc0 : Exc w base h₀ L m (envX cn cs L a ccd cl :: outer) s E stackunderflow (news))
    : wpAny (model Pg w) (ktrTop dp un gd cn cs L a ccd cl outer) (call (.ref 470) [.ref MA]) Q E s := wit (by exact Wit.get : Wit (by
  k_with "off6" => skip
  k_with "my call ref" => ((fail_if_success (k_extra "off7")); k_here; (with_reducible show wpAny _ _ (call (Value.ref 456) [Value.ref _]) _ _ _); k_dflt (refine' c_two_l (by k_asm) (by k_asm) (by k_asm) (by k_asm) (by first | exact rfl | assumption | fail) (by k_room) (by k_extra "units") (by k_asm) (by assumption) (by assumption) (by first | exact trivial | fail) ?_); intro g'_k e'_k d'_k tk'_k t'_k h'_k tk2'_k FG'_k R'_k k'_k; (try dsimp only); (try k_sweep))
  k_with "my call ref" => ((fail_if_success (k_extra "off7")); k_here; (with_reducible show wpAny _ _ (call (Value.ref 449) [Value.ref _]) _ _ _); k_dflt (refine' c_one_l (by k_asm) (by k_asm) (by k_asm) (by k_asm) (by first | exact rfl | assumption | fail) (by k_room) (by k_extra "units") (by k_asm) (by assumption) (by assumption) (by first | exact trivial | fail) ?_); intro g'_k e'_k d'_k tk'_k t'_k h'_k tk2'_k FG'_k R'_k k'_k; (try dsimp only); (try k_sweep))
  k_with "my call ref" => ((fail_if_success (k_extra "off7")); k_here; (with_reducible show wpAny _ _ (call (Value.ref 463) [Value.ref _]) _ _ _); k_dflt (refine' c_ints_l (by k_asm) (by k_asm) (by k_asm) (by k_asm) (by first | exact rfl | assumption | fail) (by k_room) (by k_extra "units") (by k_asm) (by assumption) (by assumption) (by first | exact trivial | fail) ?_); intro g'_k e'_k d'_k tk'_k t'_k h'_k tk2'_k FG'_k R'_k k'_k; (try dsimp only); (try k_sweep))
  k_with "my call ref" => ((fail_if_success (k_extra "off7")); k_here; (with_reducible show wpAny _ _ (call (Value.ref 554) [Value.ref _]) _ _ _); k_dflt (refine' c_things_l (by k_asm) (by k_asm) (by k_asm) (by k_asm) (by first | exact rfl | assumption | fail) (by k_room) (by k_extra "units") (by k_asm) (by assumption) (by assumption) (by first | exact trivial | fail) ?_); intro g'_k e'_k d'_k tk'_k t'_k h'_k tk2'_k FG'_k R'_k k'_k; (try dsimp only); (try k_sweep))
  refine wpAny_call ?_
  k_dflt k_enter
  k_steps
  all_goals (first | exact exc0 _ _ _ _ _ _ _ (by assumption) (Rs.sub (by assumption) (by walk_at "k_sub")) (by assumption))))

theorem l_sub {MA TL x : Addr} {n : Nat} (hd : dp + 60 < recursionLimit) (hu : un + 600 < cLine) (N : News h₀ L s.heap ((TL, listOf #[.ref x] n) :: news))
    (hM : MachAt w news MA TL)
    (hT : ∀ q ∈ news, q.1 ≠ TL)
    (ret : True)
    (exc0 : Exc w base h₀ L m (envX cn cs L a ccd cl :: outer) s E stackunderflow (news))
    : wpAny (model Pg w) (ktrTop dp un gd cn cs L a ccd cl outer) (call (.ref 477) [.ref MA]) Q E s := wit (by exact Wit.get : Wit (by
  refine wpAny_call ?_
  k_dflt k_enter
  k_steps
  all_goals (first | exact exc0 _ _ _ _ _ _ _ (by assumption) (Rs.sub (by assumption) (by walk_at "k_sub")) (by assumption))))

theorem l_mul {MA TL x : Addr} {n : Nat} (hd : dp + 60 < recursionLimit) (hu : un + 600 < cLine) (N : News h₀ L s.heap ((TL, listOf #[.ref x] n) :: news))
    (hM : MachAt w news MA TL)
    (hT : ∀ q ∈ news, q.1 ≠ TL)
    (ret : True)
    (exc0 : Exc w base h₀ L m (envX cn cs L a ccd cl :: outer) s E stackunderflow (news))
    : wpAny (model Pg w) (ktrTop dp un gd cn cs L a ccd cl outer) (call (.ref 484) [.ref MA]) Q E s := wit (by exact Wit.get : Wit (by
  refine wpAny_call ?_
  k_dflt k_enter
  k_steps
  all_goals (first | exact exc0 _ _ _ _ _ _ _ (by assumption) (Rs.sub (by assumption) (by walk_at "k_sub")) (by assumption))))

theorem l_div {MA TL x : Addr} {n : Nat} (hd : dp + 60 < recursionLimit) (hu : un + 600 < cLine) (N : News h₀ L s.heap ((TL, listOf #[.ref x] n) :: news))
    (hM : MachAt w news MA TL)
    (hT : ∀ q ∈ news, q.1 ≠ TL)
    (ret : True)
    (exc0 : Exc w base h₀ L m (envX cn cs L a ccd cl :: outer) s E stackunderflow (news))
    : wpAny (model Pg w) (ktrTop dp un gd cn cs L a ccd cl outer) (call (.ref 491) [.ref MA]) Q E s := wit (by exact Wit.get : Wit (by
  refine wpAny_call ?_
  k_dflt k_enter
  k_steps
  all_goals (first | exact exc0 _ _ _ _ _ _ _ (by assumption) (Rs.sub (by assumption) (by walk_at "k_sub")) (by assumption))))

theorem l_idiv {MA TL x : Addr} {n : Nat} (hd : dp + 60 < recursionLimit) (hu : un + 600 < cLine) (N : News h₀ L s.heap ((TL, listOf #[.ref x] n) :: news))
    (hM : MachAt w news MA TL)
    (hT : ∀ q ∈ news, q.1 ≠ TL)
    (ret : True)
    (exc0 : Exc w base h₀ L m (envX cn cs L a ccd cl :: outer) s E stackunderflow (news))
    : wpAny (model Pg w) (ktrTop dp un gd cn cs L a ccd cl outer) (call (.ref 498) [.ref MA]) Q E s := wit (by exact Wit.get : Wit (by
  have hM0 := hM
  obtain ⟨dM, MD, nM, S, dS, km1, km2, km3, hMA, hMD, hMO, hSA, hSD⟩ := hM
  refine wpAny_call ?_
  k_dflt k_enter
  k_steps
  all_goals (first | exact exc0 _ _ _ _ _ _ _ (by assumption) (Rs.sub (by assumption) (by walk_at "k_sub")) (by assumption))))

theorem l_mod {MA TL x : Addr} {n : Nat} (hd : dp + 60 < recursionLimit) (hu : un + 600 < cLine) (N : News h₀ L s.heap ((TL, listOf #[.ref x] n) :: news))
    (hM : MachAt w news MA TL)
    (hT : ∀ q ∈ news, q.1 ≠ TL)
    (ret : True)
    (exc0 : Exc w base h₀ L m (envX cn cs L a ccd cl :: outer) s E stackunderflow (news))
    : wpAny (model Pg w) (ktrTop dp un gd cn cs L a ccd cl outer) (call (.ref 505) [.ref MA]) Q E s := wit (by exact Wit.get : Wit (by
  have hM0 := hM
  obtain ⟨dM, MD, nM, S, dS, km1, km2, km3, hMA, hMD, hMO, hSA, hSD⟩ := hM
  refine wpAny_call ?_
  k_dflt k_enter
  k_steps
  all_goals (first | exact exc0 _ _ _ _ _ _ _ (by assumption) (Rs.sub (by assumption) (by walk_at "k_sub")) (by assumption))))

theorem l_neg {MA TL : Addr} {n : Nat} (hd : dp + 60 < recursionLimit) (hu : un + 600 < cLine) (N : News h₀ L s.heap ((TL, listOf #[] n) :: news))
    (hM : MachAt w news MA TL)
    (hT : ∀ q ∈ news, q.1 ≠ TL)
    (ret : True)
    (exc0 : Exc w base h₀ L m (envX cn cs L a ccd cl :: outer) s E stackunderflow (news))
    : wpAny (model Pg w) (ktrTop dp un gd cn cs L a ccd cl outer) (call (.ref 512) [.ref MA]) Q E s := wit (by exact Wit.get : Wit (by
  refine wpAny_call ?_
  k_dflt k_enter
  k_steps
  all_goals (first | exact exc0 _ _ _ _ _ _ _ (by assumption) (Rs.sub (by assumption) (by walk_at "k_sub")) (by assumption))))

theorem l_abs {MA TL : Addr} {n : Nat} (hd : dp + 60 < recursionLimit) (hu : un + 600 < cLine) (N : News h₀ L s.heap ((TL, listOf #[] n) :: news))
    (hM : MachAt w news MA TL)
    (hT : ∀ q ∈ news, q.1 ≠ TL)
    (ret : True)
    (exc0 : Exc w base h₀ L m (envX cn cs L a ccd cl :: outer) s E stackunderflow (news))
    : wpAny (model Pg w) (ktrTop dp un gd cn cs L a ccd cl outer) (call (.ref 519) [.ref MA]) Q E s := wit (by exact Wit.get : Wit (by
  refine wpAny_call ?_
  k_dflt k_enter
  k_steps
  all_goals (first | exact exc0 _ _ _ _ _ _ _ (by assumption) (Rs.sub (by assumption) (by walk_at "k_sub")) (by assumption))))

theorem l_ceiling {MA TL : Addr} {n : Nat} (hd : dp + 60 < recursionLimit) (hu : un + 600 < cLine) (N : News h₀ L s.heap ((TL, listOf #[] n) :: news))
    (hM : MachAt w news MA TL)
    (hT : ∀ q ∈ news, q.1 ≠ TL)
    (ret : True)
    (exc0 : Exc w base h₀ L m (envX cn cs L a ccd cl :: outer) s E stackunderflow (news))
    : wpAny (model Pg w) (ktrTop dp un gd cn cs L a ccd cl outer) (call (.ref 526) [.ref MA]) Q E s := wit (by exact Wit.get : Wit (by
  refine wpAny_call ?_
  k_dflt k_enter
  k_steps
  all_goals (first | exact exc0 _ _ _ _ _ _ _ (by assumption) (Rs.sub (by assumption) (by walk_at "k_sub")) (by assumption))))

theorem l_floor {MA TL : Addr} {n : Nat} (hd : dp + 60 < recursionLimit) (hu : un + 600 < cLine) (N : News h₀ L s.heap ((TL, listOf #[] n) :: news))
    (hM : MachAt w news MA TL)
    (hT : ∀ q ∈ news, q.1 ≠ TL)
    (ret : True)
    (exc0 : Exc w base h₀ L m (envX cn cs L a ccd cl :: outer) s E stackunderflow (news))
    : wpAny (model Pg w) (ktrTop dp un gd cn cs L a ccd cl outer) (call (.ref 533) [.ref MA]) Q E s := wit (by exact Wit.get : Wit (by
  refine wpAny_call ?_
  k_dflt k_enter
  k_steps
  all_goals (first | exact exc0 _ _ _ _ _ _ _ (by assumption) (Rs.sub (by assumption) (by walk_at "k_sub")) (by assumption))))

theorem l_round {MA TL : Addr} {n : Nat} (hd : dp + 60 < recursionLimit) (hu : un + 600 < cLine) (N : News h₀ L s.heap ((TL, listOf #[] n) :: news))
    (hM : MachAt w news MA TL)
    (hT : ∀ q ∈ news, q.1 ≠ TL)
    (ret : True)
    (exc0 : Exc w base h₀ L m (envX cn cs L a ccd cl :: outer) s E stackunderflow (news))
    : wpAny (model Pg w) (ktrTop dp un gd cn cs L a ccd cl outer) (call (.ref 540) [.ref MA]) Q E s := wit (by exact Wit.get : Wit (by
  refine wpAny_call ?_
  k_dflt k_enter
  k_steps
  all_goals (first | exact exc0 _ _ _ _ _ _ _ (by assumption) (Rs.sub (by assumption) (by walk_at "k_sub")) (by assumption))))

theorem l_truncate {MA TL : Addr} {n : Nat} (hd : dp + 60 < recursionLimit) (hu : un + 600 < cLine) (N : News h₀ L s.heap ((TL, listOf #[] n) :: news))
    (hM : MachAt w news MA TL)
    (hT : ∀ q ∈ news, q.1 ≠ TL)
    (ret : True)
    (exc0 : Exc w base h₀ L m (envX cn cs L a ccd cl :: outer) s E stackunderflow (news))
    : wpAny (model Pg w) (ktrTop dp un gd cn cs L a ccd cl outer) (call (.ref 547) [.ref MA]) Q E s := wit (by exact Wit.get : Wit (by
  refine wpAny_call ?_
  k_dflt k_enter
  k_steps
  all_goals (first | exact exc0 _ _ _ _ _ _ _ (by assumption) (Rs.sub (by assumption) (by walk_at "k_sub")) (by assumption))))

theorem l_eq {MA TL x : Addr} {n : Nat} (hd : dp + 60 < recursionLimit) (hu : un + 600 < cLine) (N : News h₀ L s.heap ((TL, listOf #[.ref x] n) :: news))
    (hM : MachAt w news MA TL)
    (hT : ∀ q ∈ news, q.1 ≠ TL)
    (ret : True)
    (exc0 : Exc w base h₀ L m (envX cn cs L a ccd cl :: outer) s E stackunderflow (news))
    : wpAny (model Pg w) (ktrTop dp un gd cn cs L a ccd cl outer) (call (.ref 561) [.ref MA]) Q E s := wit (by exact Wit.get : Wit (by
  have hM0 := hM
  obtain ⟨dM, MD, nM, S, dS, km1, km2, km3, hMA, hMD, hMO, hSA, hSD⟩ := hM
  refine wpAny_call ?_
  k_dflt k_enter
  k_steps
  all_goals (first | exact exc0 _ _ _ _ _ _ _ (by assumption) (Rs.sub (by assumption) (by walk_at "k_sub")) (by assumption))))

theorem l_ne {MA TL x : Addr} {n : Nat} (hd : dp + 60 < recursionLimit) (hu : un + 600 < cLine) (N : News h₀ L s.heap ((TL, listOf #[.ref x] n) :: news))
    (hM : MachAt w news MA TL)
    (hT : ∀ q ∈ news, q.1 ≠ TL)
    (ret : True)
    (exc0 : Exc w base h₀ L m (envX cn cs L a ccd cl :: outer) s E stackunderflow (news))
    : wpAny (model Pg w) (ktrTop dp un gd cn cs L a ccd cl outer) (call (.ref 568) [.ref MA]) Q E s := wit (by exact Wit.get : Wit (by
  have hM0 := hM
  obtain ⟨dM, MD, nM, S, dS, km1, km2, km3, hMA, hMD, hMO, hSA, hSD⟩ := hM
  refine wpAny_call ?_
  k_dflt k_enter
  k_steps
  all_goals (first | exact exc0 _ _ _ _ _ _ _ (by assumption) (Rs.sub (by assumption) (by walk_at "k_sub")) (by assumption))))

theorem l_lt {MA TL x : Addr} {n : Nat} (hd : dp + 60 < recursionLimit) (hu : un + 600 < cLine) (N : News h₀ L s.heap ((TL, listOf #[.ref x] n) :: news))
    (hM : MachAt w news MA TL)
    (hT : ∀ q ∈ news, q.1 ≠ TL)
    (ret : True)
    (exc0 : Exc w base h₀ L m (envX cn cs L a ccd cl :: outer) s E stackunderflow (news))
    : wpAny (model Pg w) (ktrTop dp un gd cn cs L a ccd cl outer) (call (.ref 575) [.ref MA]) Q E s := wit (by exact Wit.get : Wit (by
  have hM0 := hM
  obtain ⟨dM, MD, nM, S, dS, km1, km2, km3, hMA, hMD, hMO, hSA, hSD⟩ := hM
  refine wpAny_call ?_
  k_dflt k_enter
  k_steps
  all_goals (first | exact exc0 _ _ _ _ _ _ _ (by assumption) (Rs.sub (by assumption) (by walk_at "k_sub")) (by assumption))))

theorem l_gt {MA TL x : Addr} {n : Nat} (hd : dp + 60 < recursionLimit) (hu : un + 600 < cLine) (N : News h₀ L s.heap ((TL, listOf #[.ref x] n) :: news))
    (hM : MachAt w news MA TL)
    (hT : ∀ q ∈ news, q.1 ≠ TL)
    (ret : True)
    (exc0 : Exc w base h₀ L m (envX cn cs L a ccd cl :: outer) s E stackunderflow (news))
    : wpAny (model Pg w) (ktrTop dp un gd cn cs L a ccd cl outer) (call (.ref 582) [.ref MA]) Q E s := wit (by exact Wit.get : Wit (by
  have hM0 := hM
  obtain ⟨dM, MD, nM, S, dS, km1, km2, km3, hMA, hMD, hMO, hSA, hSD⟩ := hM
  refine wpAny_call ?_
  k_dflt k_enter
  k_steps
  all_goals (first | exact exc0 _ _ _ _ _ _ _ (by assumption) (Rs.sub (by assumption) (by walk_at "k_sub")) (by assumption))))

theorem l_le {MA TL x : Addr} {n : Nat} (hd : dp + 60 < recursionLimit) (hu : un + 600 < cLine) (N : News h₀ L s.heap ((TL, listOf #[.ref x] n) :: news))
    (hM : MachAt w news MA TL)
    (hT : ∀ q ∈ news, q.1 ≠ TL)
    (ret : True)
    (exc0 : Exc w base h₀ L m (envX cn cs L a ccd cl :: outer) s E stackunderflow (news))
    : wpAny (model Pg w) (ktrTop dp un gd cn cs L a ccd cl outer) (call (.ref 596) [.ref MA]) Q E s := wit (by exact Wit.get : Wit (by
  have hM0 := hM
  obtain ⟨dM, MD, nM, S, dS, km1, km2, km3, hMA, hMD, hMO, hSA, hSD⟩ := hM
  refine wpAny_call ?_
  k_dflt k_enter
  k_steps
  all_goals (first | exact exc0 _ _ _ _ _ _ _ (by assumption) (Rs.sub (by assumption) (by walk_at "k_sub")) (by assumption))))

theorem l_ge {MA TL x : Addr} {n : Nat} (hd : dp + 60 < recursionLimit) (hu : un + 600 < cLine) (N : News h₀ L s.heap ((TL, listOf #[.ref x] n) :: news))
    (hM : MachAt w news MA TL)
    (hT : ∀ q ∈ news, q.1 ≠ TL)
    (ret : True)
    (exc0 : Exc w base h₀ L m (envX cn cs L a ccd cl :: outer) s E stackunderflow (news))
    : wpAny (model Pg w) (ktrTop dp un gd cn cs L a ccd cl outer) (call (.ref 589) [.ref MA]) Q E s := wit (by exact Wit.get : Wit (by
  have hM0 := hM
  obtain ⟨dM, MD, nM, S, dS, km1, km2, km3, hMA, hMD, hMO, hSA, hSD⟩ := hM
  refine wpAny_call ?_
  k_dflt k_enter
  k_steps
  all_goals (first | exact exc0 _ _ _ _ _ _ _ (by assumption) (Rs.sub (by assumption) (by walk_at "k_sub")) (by assumption))))

omit B F X T hk in
theorem od2 {c : Wd} {MA TL b1 b2 x1 x : Addr} {o1 o2 : Op} {t1 t2 : Tok} (hM : MachAt w news MA TL) (hx1 : ThingAt w news x1 o1.kd (o1.val t1)) (hx : ThingAt w news x o2.kd (o2.val t2)) (hT : ∀ q ∈ news, q.1 ≠ TL) (hs1 : Tn o1.mil) (hs2 : Tn o2.mil) (hc : c.un = false) : OpDoes w p lo mean mg mb c.ad MA TL #[.ref b1, .ref b2, .ref x1, .ref x] news (RPr w TL b1 b2 news (machF2 c o1 o2)) (EPr (machF2 c o1 o2)) := by
  cases c <;> first
    | exact absurd hc (by decide)
    | exact fun _ _ _ _ _ _ _ _ _ _ _ _ _ _ _ _ _ _ B F X T hk hd hu N ret exc => o_add B F X T hk hd hu N hM hx1 hx hT hs1 hs2 (fun o z dz k1 k2 k3 k4 t1 t2 u n' h' tk' hr F' N' => ret _ h' tk' (.mk o z dz k1 k2 k3 k4 t1 t2 u n' hr) F' N') exc
    | exact fun _ _ _ _ _ _ _ _ _ _ _ _ _ _ _ _ _ _ B F X T hk hd hu N ret exc => o_sub B F X T hk hd hu N hM hx1 hx hT hs1 hs2 (fun o z dz k1 k2 k3 k4 t1 t2 u n' h' tk' hr F' N' => ret _ h' tk' (.mk o z dz k1 k2 k3 k4 t1 t2 u n' hr) F' N') exc
    | exact fun _ _ _ _ _ _ _ _ _ _ _ _ _ _ _ _ _ _ B F X T hk hd hu N ret exc => o_mul B F X T hk hd hu N hM hx1 hx hT hs1 hs2 (fun o z dz k1 k2 k3 k4 t1 t2 u n' h' tk' hr F' N' => ret _ h' tk' (.mk o z dz k1 k2 k3 k4 t1 t2 u n' hr) F' N') exc
    | exact fun _ _ _ _ _ _ _ _ _ _ _ _ _ _ _ _ _ _ B F X T hk hd hu N ret exc => o_div B F X T hk hd hu N hM hx1 hx hT hs1 hs2 (fun o z dz k1 k2 k3 k4 t1 t2 u n' h' tk' hr F' N' => ret _ h' tk' (.mk o z dz k1 k2 k3 k4 t1 t2 u n' hr) F' N') exc
    | exact fun _ _ _ _ _ _ _ _ _ _ _ _ _ _ _ _ _ _ B F X T hk hd hu N ret exc => o_idiv B F X T hk hd hu N hM hx1 hx hT hs1 hs2 (fun o z dz k1 k2 k3 k4 t1 t2 u n' h' tk' hr F' N' => ret _ h' tk' (.mk o z dz k1 k2 k3 k4 t1 t2 u n' hr) F' N') exc
    | exact fun _ _ _ _ _ _ _ _ _ _ _ _ _ _ _ _ _ _ B F X T hk hd hu N ret exc => o_mod B F X T hk hd hu N hM hx1 hx hT hs1 hs2 (fun o z dz k1 k2 k3 k4 t1 t2 u n' h' tk' hr F' N' => ret _ h' tk' (.mk o z dz k1 k2 k3 k4 t1 t2 u n' hr) F' N') exc
    | exact fun _ _ _ _ _ _ _ _ _ _ _ _ _ _ _ _ _ _ B F X T hk hd hu N ret exc => o_eq B F X T hk hd hu N hM hx1 hx hT hs1 hs2 (fun o z dz k1 k2 k3 k4 t1 t2 u n' h' tk' hr F' N' => ret _ h' tk' (.mk o z dz k1 k2 k3 k4 t1 t2 u n' hr) F' N') exc
    | exact fun _ _ _ _ _ _ _ _ _ _ _ _ _ _ _ _ _ _ B F X T hk hd hu N ret exc => o_ne B F X T hk hd hu N hM hx1 hx hT hs1 hs2 (fun o z dz k1 k2 k3 k4 t1 t2 u n' h' tk' hr F' N' => ret _ h' tk' (.mk o z dz k1 k2 k3 k4 t1 t2 u n' hr) F' N') exc
    | exact fun _ _ _ _ _ _ _ _ _ _ _ _ _ _ _ _ _ _ B F X T hk hd hu N ret exc => o_lt B F X T hk hd hu N hM hx1 hx hT hs1 hs2 (fun o z dz k1 k2 k3 k4 t1 t2 u n' h' tk' hr F' N' => ret _ h' tk' (.mk o z dz k1 k2 k3 k4 t1 t2 u n' hr) F' N') exc
    | exact fun _ _ _ _ _ _ _ _ _ _ _ _ _ _ _ _ _ _ B F X T hk hd hu N ret exc => o_gt B F X T hk hd hu N hM hx1 hx hT hs1 hs2 (fun o z dz k1 k2 k3 k4 t1 t2 u n' h' tk' hr F' N' => ret _ h' tk' (.mk o z dz k1 k2 k3 k4 t1 t2 u n' hr) F' N') exc
    | exact fun _ _ _ _ _ _ _ _ _ _ _ _ _ _ _ _ _ _ B F X T hk hd hu N ret exc => o_le B F X T hk hd hu N hM hx1 hx hT hs1 hs2 (fun o z dz k1 k2 k3 k4 t1 t2 u n' h' tk' hr F' N' => ret _ h' tk' (.mk o z dz k1 k2 k3 k4 t1 t2 u n' hr) F' N') exc
    | exact fun _ _ _ _ _ _ _ _ _ _ _ _ _ _ _ _ _ _ B F X T hk hd hu N ret exc => o_ge B F X T hk hd hu N hM hx1 hx hT hs1 hs2 (fun o z dz k1 k2 k3 k4 t1 t2 u n' h' tk' hr F' N' => ret _ h' tk' (.mk o z dz k1 k2 k3 k4 t1 t2 u n' hr) F' N') exc
omit B F X T hk in
theorem od1 {c : Wd} {MA TL b1 b2 x : Addr} {o : Op} {t : Tok} (hM : MachAt w news MA TL) (hx : ThingAt w news x o.kd (o.val t)) (hT : ∀ q ∈ news, q.1 ≠ TL) (hs1 : Tn o.mil) (hc : c.un = true) : OpDoes w p lo mean mg mb c.ad MA TL #[.ref b1, .ref b2, .ref x] news (RPr w TL b1 b2 news (machF1 c o)) (EPr (machF1 c o)) := by
  cases c <;> first
    | exact absurd hc (by decide)
    | exact fun _ _ _ _ _ _ _ _ _ _ _ _ _ _ _ _ _ _ B F X T hk hd hu N ret exc => o_neg B F X T hk hd hu N hM hx hT hs1 (fun o z dz k1 k2 k3 k4 t1 t2 u n' h' tk' hr F' N' => ret _ h' tk' (.mk o z dz k1 k2 k3 k4 t1 t2 u n' hr) F' N') exc
    | exact fun _ _ _ _ _ _ _ _ _ _ _ _ _ _ _ _ _ _ B F X T hk hd hu N ret exc => o_abs B F X T hk hd hu N hM hx hT hs1 (fun o z dz k1 k2 k3 k4 t1 t2 u n' h' tk' hr F' N' => ret _ h' tk' (.mk o z dz k1 k2 k3 k4 t1 t2 u n' hr) F' N') exc
    | exact fun _ _ _ _ _ _ _ _ _ _ _ _ _ _ _ _ _ _ B F X T hk hd hu N ret exc => o_ceil B F X T hk hd hu N hM hx hT hs1 (fun o z dz k1 k2 k3 k4 t1 t2 u n' h' tk' hr F' N' => ret _ h' tk' (.mk o z dz k1 k2 k3 k4 t1 t2 u n' hr) F' N') exc
    | exact fun _ _ _ _ _ _ _ _ _ _ _ _ _ _ _ _ _ _ B F X T hk hd hu N ret exc => o_floor B F X T hk hd hu N hM hx hT hs1 (fun o z dz k1 k2 k3 k4 t1 t2 u n' h' tk' hr F' N' => ret _ h' tk' (.mk o z dz k1 k2 k3 k4 t1 t2 u n' hr) F' N') exc
    | exact fun _ _ _ _ _ _ _ _ _ _ _ _ _ _ _ _ _ _ B F X T hk hd hu N ret exc => o_round B F X T hk hd hu N hM hx hT hs1 (fun o z dz k1 k2 k3 k4 t1 t2 u n' h' tk' hr F' N' => ret _ h' tk' (.mk o z dz k1 k2 k3 k4 t1 t2 u n' hr) F' N') exc
    | exact fun _ _ _ _ _ _ _ _ _ _ _ _ _ _ _ _ _ _ B F X T hk hd hu N ret exc => o_trunc B F X T hk hd hu N hM hx hT hs1 (fun o z dz k1 k2 k3 k4 t1 t2 u n' h' tk' hr F' N' => ret _ h' tk' (.mk o z dz k1 k2 k3 k4 t1 t2 u n' hr) F' N') exc
omit B F X T hk in
theorem ol2 {c : Wd} {MA TL x : Addr} (hM : MachAt w news MA TL) (hT : ∀ q ∈ news, q.1 ≠ TL) (hc : c.un = false) : OpDoes w p lo mean mg mb c.ad MA TL #[.ref x] news (fun _ => False) (fun b => b = stackunderflow) := by
  cases c <;> first
    | exact absurd hc (by decide)
    | exact fun _ _ _ _ _ _ _ _ _ _ _ _ _ _ _ _ _ _ B F X T hk hd hu N _ exc => l_add B F X T hk hd hu N hM hT trivial (exc _ rfl)
    | exact fun _ _ _ _ _ _ _ _ _ _ _ _ _ _ _ _ _ _ B F X T hk hd hu N _ exc => l_sub B F X T hk hd hu N hM hT trivial (exc _ rfl)
    | exact fun _ _ _ _ _ _ _ _ _ _ _ _ _ _ _ _ _ _ B F X T hk hd hu N _ exc => l_mul B F X T hk hd hu N hM hT trivial (exc _ rfl)
    | exact fun _ _ _ _ _ _ _ _ _ _ _ _ _ _ _ _ _ _ B F X T hk hd hu N _ exc => l_div B F X T hk hd hu N hM hT trivial (exc _ rfl)
    | exact fun _ _ _ _ _ _ _ _ _ _ _ _ _ _ _ _ _ _ B F X T hk hd hu N _ exc => l_idiv B F X T hk hd hu N hM hT trivial (exc _ rfl)
    | exact fun _ _ _ _ _ _ _ _ _ _ _ _ _ _ _ _ _ _ B F X T hk hd hu N _ exc => l_mod B F X T hk hd hu N hM hT trivial (exc _ rfl)
    | exact fun _ _ _ _ _ _ _ _ _ _ _ _ _ _ _ _ _ _ B F X T hk hd hu N _ exc => l_eq B F X T hk hd hu N hM hT trivial (exc _ rfl)
    | exact fun _ _ _ _ _ _ _ _ _ _ _ _ _ _ _ _ _ _ B F X T hk hd hu N _ exc => l_ne B F X T hk hd hu N hM hT trivial (exc _ rfl)
    | exact fun _ _ _ _ _ _ _ _ _ _ _ _ _ _ _ _ _ _ B F X T hk hd hu N _ exc => l_lt B F X T hk hd hu N hM hT trivial (exc _ rfl)
    | exact fun _ _ _ _ _ _ _ _ _ _ _ _ _ _ _ _ _ _ B F X T hk hd hu N _ exc => l_gt B F X T hk hd hu N hM hT trivial (exc _ rfl)
    | exact fun _ _ _ _ _ _ _ _ _ _ _ _ _ _ _ _ _ _ B F X T hk hd hu N _ exc => l_le B F X T hk hd hu N hM hT trivial (exc _ rfl)
    | exact fun _ _ _ _ _ _ _ _ _ _ _ _ _ _ _ _ _ _ B F X T hk hd hu N _ exc => l_ge B F X T hk hd hu N hM hT trivial (exc _ rfl)
omit B F X T hk in
theorem ol1 {c : Wd} {MA TL : Addr} (hM : MachAt w news MA TL) (hT : ∀ q ∈ news, q.1 ≠ TL) (hc : c.un = true) : OpDoes w p lo mean mg mb c.ad MA TL #[] news (fun _ => False) (fun b => b = stackunderflow) := by
  cases c <;> first
    | exact absurd hc (by decide)
    | exact fun _ _ _ _ _ _ _ _ _ _ _ _ _ _ _ _ _ _ B F X T hk hd hu N _ exc => l_neg B F X T hk hd hu N hM hT trivial (exc _ rfl)
    | exact fun _ _ _ _ _ _ _ _ _ _ _ _ _ _ _ _ _ _ B F X T hk hd hu N _ exc => l_abs B F X T hk hd hu N hM hT trivial (exc _ rfl)
    | exact fun _ _ _ _ _ _ _ _ _ _ _ _ _ _ _ _ _ _ B F X T hk hd hu N _ exc => l_ceiling B F X T hk hd hu N hM hT trivial (exc _ rfl)
    | exact fun _ _ _ _ _ _ _ _ _ _ _ _ _ _ _ _ _ _ B F X T hk hd hu N _ exc => l_floor B F X T hk hd hu N hM hT trivial (exc _ rfl)
    | exact fun _ _ _ _ _ _ _ _ _ _ _ _ _ _ _ _ _ _ B F X T hk hd hu N _ exc => l_round B F X T hk hd hu N hM hT trivial (exc _ rfl)
    | exact fun _ _ _ _ _ _ _ _ _ _ _ _ _ _ _ _ _ _ B F X T hk hd hu N _ exc => l_truncate B F X T hk hd hu N hM hT trivial (exc _ rfl)

end
section





theorem c_called {c : Wd} {MA TL : Addr} {xs : Array Value} {RP : Led → Prop} {EP : Array UInt8 → Prop} {n : Nat} {tw : Tok} (hd : dp + 70 < recursionLimit) (hu : un + 700 < cLine) (N : News h₀ L s.heap ((TL, listOf xs n) :: news))
    (hO : OpDoes w p lo mean mg mb c.ad MA TL xs news RP EP)
    (ret : ∀ led h' tk', RP led → Fr h₀ L h' m → News h₀ L h' led → Q .none { s with heap := h', toks := tk' })
    (exc0 : ∀ b, EP b → Exc w base h₀ L m (envX cn cs L a ccd cl :: outer) s E b (news))
    : wpAny (model Pg w) (ktrTop dp un gd cn cs L a ccd cl outer) (call (.ref 885) [.str c.str tw, .ref MA]) Q E s := wit (by exact Wit.get : Wit (by
  k_with "off7" => skip
  k_with "my compareOp In str ref" => ((fail_if_success (k_extra "off8")); k_here; (with_reducible show wpAny _ _ (compareOp CmpOp.In (Value.str _ _) (Value.ref _)) _ _ _); (with_unfolding_all refine' in_tuple_strs (by first | exact News.isTup (by k_asm) (by k_mem) | exact kun_topT (by k_asm) (by k_asm) (by k_is) | fail) (by first | kde_strs | fail) ?_; k_whole))
  k_with "my call ref" => ((fail_if_success (k_extra "off8")); k_here; (with_reducible show wpAny _ _ (call (Value.ref _) [Value.ref _]) _ _ _); k_dflt (refine' op_use (by k_asm) (by k_asm) (by k_asm) (by k_asm) (by first | exact rfl | assumption | fail) (by k_room) (by k_extra "units") (by k_asm) (by assumption) (by k_mem) (by walk_at "k_sub") ?_ ?_); intro led'_k h'_k tk'_k hr'_k F'_k N'_k; (try dsimp only); (try k_sweep); rotate_left; intro b'_k hb'_k g'_k e'_k d'_k tk'_k t'_k h'_k tk2'_k FG'_k R'_k k'_k; (try dsimp only); rotate_left)
  k_with "my call ref" => ((fail_if_success (k_extra "off8")); k_here; (with_reducible show wpAny _ _ (call (Value.ref 470) [Value.ref _]) _ _ _); k_dflt (refine' op_useE (by k_asm) (by k_asm) (by k_asm) (by k_asm) (by first | exact rfl | assumption | fail) (by k_room) (by k_extra "units") (by k_asm) (by assumption) (by first | exact ad_add (by assumption) | fail) (by k_mem) (by walk_at "k_sub") ?_ ?_); intro led'_k h'_k tk'_k hr'_k F'_k N'_k; (try dsimp only); (try k_sweep); rotate_left; intro b'_k hb'_k g'_k e'_k d'_k tk'_k t'_k h'_k tk2'_k FG'_k R'_k k'_k; (try dsimp only); rotate_left)
  k_with "my call ref" => ((fail_if_success (k_extra "off8")); k_here; (with_reducible show wpAny _ _ (call (Value.ref 477) [Value.ref _]) _ _ _); k_dflt (refine' op_useE (by k_asm) (by k_asm) (by k_asm) (by k_asm) (by first | exact rfl | assumption | fail) (by k_room) (by k_extra "units") (by k_asm) (by assumption) (by first | exact ad_sub (by assumption) | fail) (by k_mem) (by walk_at "k_sub") ?_ ?_); intro led'_k h'_k tk'_k hr'_k F'_k N'_k; (try dsimp only); (try k_sweep); rotate_left; intro b'_k hb'_k g'_k e'_k d'_k tk'_k t'_k h'_k tk2'_k FG'_k R'_k k'_k; (try dsimp only); rotate_left)
  k_with "my call ref" => ((fail_if_success (k_extra "off8")); k_here; (with_reducible show wpAny _ _ (call (Value.ref 484) [Value.ref _]) _ _ _); k_dflt (refine' op_useE (by k_asm) (by k_asm) (by k_asm) (by k_asm) (by first | exact rfl | assumption | fail) (by k_room) (by k_extra "units") (by k_asm) (by assumption) (by first | exact ad_mul (by assumption) | fail) (by k_mem) (by walk_at "k_sub") ?_ ?_); intro led'_k h'_k tk'_k hr'_k F'_k N'_k; (try dsimp only); (try k_sweep); rotate_left; intro b'_k hb'_k g'_k e'_k d'_k tk'_k t'_k h'_k tk2'_k FG'_k R'_k k'_k; (try dsimp only); rotate_left)
  k_with "my call ref" => ((fail_if_success (k_extra "off8")); k_here; (with_reducible show wpAny _ _ (call (Value.ref 491) [Value.ref _]) _ _ _); k_dflt (refine' op_useE (by k_asm) (by k_asm) (by k_asm) (by k_asm) (by first | exact rfl | assumption | fail) (by k_room) (by k_extra "units") (by k_asm) (by assumption) (by first | exact ad_div (by assumption) | fail) (by k_mem) (by walk_at "k_sub") ?_ ?_); intro led'_k h'_k tk'_k hr'_k F'_k N'_k; (try dsimp only); (try k_sweep); rotate_left; intro b'_k hb'_k g'_k e'_k d'_k tk'_k t'_k h'_k tk2'_k FG'_k R'_k k'_k; (try dsimp only); rotate_left)
  k_with "my getItem ref str" => ((fail_if_success (k_extra "off8")); k_here; (with_reducible show wpAny _ _ (getItem (Value.ref _) (Value.str (Wd.str _) _)) _ _ _); k_dflt (refine kdt_getItem (knd := PySem.strKind _ _) (by k_asm) (by k_mem) (by k_asm) (strKind_is _ _ _ _) (by first | exact val_im (by assumption) | exact val_nac (by assumption) | exact val_frt (by assumption) | exact val_enl (by assumption) | exact val_rest (in_rest (by assumption) (by assumption) (by assumption) (by assumption) (by assumption) (by assumption) (by assumption) (by assumption))) ?_))
  k_with "my callWith ref" => ((fail_if_success (k_extra "off8")); k_here; (with_reducible show wpAny _ _ (callWith _ (Value.ref (Wd.ad _)) _ _ _) _ _ _); k_dflt (refine callWith_K (by k_asm) (kad _ _) ?_))
  refine wpAny_call ?_
  k_dflt k_enter
  k_steps
  all_goals (first | exact ret _ _ _ (by assumption) (by assumption) (by assumption) | exact exc0 _ (by assumption) _ _ _ _ _ _ _ (by assumption) (Rs.sub (by assumption) (by walk_at "k_sub")) (by assumption))))


end

end
section
theorem c_lnear {x y : Int} {t u : Tok} (hd : dp + 5 < recursionLimit) (hu : un + 50 < cLine) (N : News h₀ L s.heap (news))
    (hy : y ≠ 0)
    (hx : Sm x)
    (hz : Sm y)
    (ret : ∀ v t' h' tk', v = dividedF x y → Fr h₀ L h' m → News h₀ L h' news → Q (.int v t') { s with heap := h', toks := tk' })
    : wpAny (model Pg w) (ktrTop dp un gd cn cs L a ccd cl outer) (call (.ref 847) [.int x t, .int y u]) Q E s := wit (by exact Wit.get : Wit (by
  k_with "off8" => skip
  k_with "off3" => skip
  k_with "my call builtin:divmod" => ((fail_if_success (k_extra "off9")); k_here; (with_reducible show wpAny _ _ (call (Value.builtin "divmod") [Value.int _ _, Value.int _ _]) _ _ _); k_dflt (refine' divmod_N (by k_asm) (by k_asm) (by first | exact absNe (by assumption) | exact absNe (by omega) | fail) ?_ (Or.inl (divOk (by first | exact absBig (by assumption) | exact absBig (by constructor <;> omega) | fail)))); intro h'_k F'_k N'_k; (try dsimp only); (try dsimp only at F'_k N'_k); (try k_sweep))
  refine wpAny_call ?_
  k_dflt k_enter
  k_steps
  all_goals (first | exact ret _ _ _ _ (nrS (by assumption) hy (Or.inl ⟨by assumption, rfl⟩)) (by assumption) (tl1 (by assumption)) | exact ret _ _ _ _ (nrS (by assumption) hy (Or.inr ⟨by first | assumption | omega, rfl⟩)) (by assumption) (tl1 (by assumption)) | exact ret _ _ _ _ (nrD (by assumption) hy (Or.inl ⟨by assumption, rfl⟩) rfl) (by assumption) (tl1 (by assumption)) | exact ret _ _ _ _ (nrD (by assumption) hy (Or.inr ⟨by first | assumption | omega, rfl⟩) rfl) (by assumption) (tl1 (by assumption)))))


theorem c_lreal {x : Int} {t : Tok} (hd : dp + 10 < recursionLimit) (hu : un + 100 < cLine) (N : News h₀ L s.heap (news))
    (ret2 : ∀ b t' h' tk', realF x = .bad b → Fr h₀ L h' m → News h₀ L h' news → Q (.str (txt b) t') { s with heap := h', toks := tk' })
    (ret : ∀ oR D t1' t2' h' tk', realF x = .ok oR → Fr h₀ L h' m → News h₀ L h' ((D, tupO oR t1' t2') :: news) → Q (.ref D) { s with heap := h', toks := tk' })
    : wpAny (model Pg w) (ktrTop dp un gd cn cs L a ccd cl outer) (call (.ref 861) [.int x t]) Q E s := wit (by exact Wit.get : Wit (by
  k_with "my call ref" => ((fail_if_success (k_extra "off9")); k_here; (with_reducible show wpAny _ _ (call (Value.ref 847) [Value.int _ _, Value.int _ _]) _ _ _); k_dflt (refine' c_lnear (by k_asm) (by k_asm) (by k_asm) (by k_asm) (by first | exact rfl | assumption | fail) (by k_room) (by k_extra "units") (by k_asm) (by first | assumption | omega | fail) (by first | assumption | (k_extra "bnd") | exact mulSm (by first | assumption | (k_extra "bnd")) (by first | assumption | (k_extra "bnd")) | fail) (by first | assumption | (k_extra "bnd") | exact mulSm (by first | assumption | (k_extra "bnd")) (by first | assumption | (k_extra "bnd")) | fail) ?_); intro v'_k t'_k h'_k tk'_k hv'_k F'_k N'_k; (try dsimp only); (try k_sweep))
  k_with "my eval Call" => ((fail_if_success (k_extra "off9")); k_here; (with_reducible show wpAny _ _ (eval (Expr.Call (Expr.Name (PySem.Str.ofString "_law_nearest") _) _ _ _) _) _ _ _); k_dflt (refine Call_ ?_))
  k_with "my eval Call" => ((fail_if_success (k_extra "off9")); k_here; (with_reducible show wpAny _ _ (eval (Expr.Call (Expr.Name (PySem.Str.ofString "_law_real") _) _ _ _) _) _ _ _); k_dflt (refine Call_ ?_))
  k_with "my eval Call" => ((fail_if_success (k_extra "off9")); k_here; (with_reducible show wpAny _ _ (eval (Expr.Call (Expr.Name (PySem.Str.ofString "_law_whole") _) _ _ _) _) _ _ _); k_dflt (refine Call_ ?_))
  k_with "my eval Call" => ((fail_if_success (k_extra "off9")); k_here; (with_reducible show wpAny _ _ (eval (Expr.Call (Expr.Name (PySem.Str.ofString "_law_lone") _) _ _ _) _) _ _ _); k_dflt (refine Call_ ?_))
  k_with "my eval Call" => ((fail_if_success (k_extra "off9")); k_here; (with_reducible show wpAny _ _ (eval (Expr.Call (Expr.Name (PySem.Str.ofString "_law_pair") _) _ _ _) _) _ _ _); k_dflt (refine Call_ ?_))
  k_with "my eval Call" => ((fail_if_success (k_extra "off9")); k_here; (with_reducible show wpAny _ _ (eval (Expr.Call (Expr.Name (PySem.Str.ofString "_law_draw") _) _ _ _) _) _ _ _); k_dflt (refine Call_ ?_))
  k_with "my eval Call" => ((fail_if_success (k_extra "off9")); k_here; (with_reducible show wpAny _ _ (eval (Expr.Call (Expr.Name (PySem.Str.ofString "_law_operand") _) _ _ _) _) _ _ _); k_dflt (refine Call_ ?_))
  k_with "my eval Call" => ((fail_if_success (k_extra "off9")); k_here; (with_reducible show wpAny _ _ (eval (Expr.Call (Expr.Name (PySem.Str.ofString "_law_due") _) _ _ _) _) _ _ _); k_dflt (refine Call_ ?_))
  k_with "my eval Call" => ((fail_if_success (k_extra "off9")); k_here; (with_reducible show wpAny _ _ (eval (Expr.Call (Expr.Name (PySem.Str.ofString "_law_reals") _) _ _ _) _) _ _ _); k_dflt (refine Call_ ?_))
  k_with "my binaryOp Pow int int" => ((fail_if_success (k_extra "off9")); k_here; first | (with_reducible refine pw_10_21 ?_) | (with_reducible refine pw_10_6 ?_) | (with_reducible refine pw_2_31 ?_) | (with_reducible refine pw_2_32 ?_) | (with_reducible refine pw_2_40 ?_))
  refine wpAny_call ?_
  k_dflt k_enter
  k_steps
  all_goals (first | exact ret (.real _) _ _ _ _ _ (rOk (by constructor <;> omega)) (by assumption) (by assumption) | exact ret2 limitcheck _ _ _ (rBad (by (intro h; obtain ⟨h1, h2⟩ := h; omega))) (by assumption) (by assumption))))


theorem c_lwhole {x : Int} {t : Tok} (hd : dp + 20 < recursionLimit) (hu : un + 200 < cLine) (N : News h₀ L s.heap (news))
    (hx : Sm (x * 1000000))
    (ret2 : ∀ b t' h' tk', wholeF x = .bad b → Fr h₀ L h' m → News h₀ L h' news → Q (.str (txt b) t') { s with heap := h', toks := tk' })
    (ret : ∀ oR D t1' t2' h' tk', wholeF x = .ok oR → Fr h₀ L h' m → News h₀ L h' ((D, tupO oR t1' t2') :: news) → Q (.ref D) { s with heap := h', toks := tk' })
    : wpAny (model Pg w) (ktrTop dp un gd cn cs L a ccd cl outer) (call (.ref 854) [.int x t]) Q E s := wit (by exact Wit.get : Wit (by
  k_with "my call ref" => ((fail_if_success (k_extra "off9")); k_here; (with_reducible show wpAny _ _ (call (Value.ref 861) [Value.int _ _]) _ _ _); k_dflt (refine' c_lreal (by k_asm) (by k_asm) (by k_asm) (by k_asm) (by first | exact rfl | assumption | fail) (by k_room) (by k_extra "units") (by k_asm)  ?_ ?_); intro b'_k t'_k h'_k tk'_k hr'_k F'_k N'_k; (try dsimp only); (try k_sweep); rotate_left; intro o'_k D'_k t1'_k t2'_k h'_k tk'_k hr'_k F'_k N'_k; (try dsimp only); (try k_sweep); rotate_left)
  have hx9 : -1000000000000000000000000000000000000000000000000000000000 < x * 1000000 ∧ x * 1000000 < 1000000000000000000000000000000000000000000000000000000000 := hx
  refine wpAny_call ?_
  k_dflt k_enter
  k_steps
  all_goals (first | exact ret (.int _) _ _ _ _ _ (by unfold wholeF; rw [if_pos (by constructor <;> omega)]) (by assumption) (by assumption) | exact ret _ _ _ _ _ _ (by unfold wholeF; rw [if_neg (by (intro h; obtain ⟨h1, h2⟩ := h; omega))]; assumption) (by assumption) (by assumption) | exact ret2 _ _ _ _ (by unfold wholeF; rw [if_neg (by (intro h; obtain ⟨h1, h2⟩ := h; omega))]; assumption) (by assumption) (by assumption))))

section

theorem e_neg {a1 : Addr} {o : Op} {t1 t2 tw : Tok} (hd : dp + 40 < recursionLimit) (hu : un + 400 < cLine) (N : News h₀ L s.heap (news))
    (h1 : (a1, tupO o t1 t2) ∈ news)
    (hA : o.num = true)
    (hk0 : OpOk o)
    (ret2 : ∀ b t' h' tk', negF o = .bad b → Fr h₀ L h' m → News h₀ L h' news → Q (.str (txt b) t') { s with heap := h', toks := tk' })
    (ret : ∀ oR D t1' t2' h' tk', negF o = .ok oR → Fr h₀ L h' m → News h₀ L h' ((D, tupO oR t1' t2') :: news) → Q (.ref D) { s with heap := h', toks := tk' })
    : wpAny (model Pg w) (ktrTop dp un gd cn cs L a ccd cl outer) (call (.ref 868) [.str (Str.ofString "neg") tw, .ref a1]) Q E s := wit (by exact Wit.get : Wit (by
  k_with "my call ref" => ((fail_if_success (k_extra "off10")); k_here; (with_reducible show wpAny _ _ (call (Value.ref 854) [Value.int _ _]) _ _ _); k_dflt (refine' c_lwhole (by k_asm) (by k_asm) (by k_asm) (by k_asm) (by first | exact rfl | assumption | fail) (by k_room) (by k_extra "units") (by k_asm) (by first | assumption | (k_extra "bnd") | fail) ?_ ?_); intro b'_k t'_k h'_k tk'_k hr'_k F'_k N'_k; (try dsimp only); (try k_sweep); rotate_left; intro o'_k D'_k t1'_k t2'_k h'_k tk'_k hr'_k F'_k N'_k; (try dsimp only); (try k_sweep); rotate_left)
  cases o with
  | bool b => cases hA
  | int i =>
    have hz : -2147483648 ≤ i ∧ i ≤ 2147483647 := hk0
    dsimp only [tupO, Op.kd, Op.val] at h1
    refine wpAny_call ?_
    k_dflt k_enter
    k_steps
    all_goals (first | exact ret _ _ _ _ _ _ (by assumption) (by assumption) (by assumption) | exact ret2 _ _ _ _ (by assumption) (by assumption) (by assumption))
  | real r =>
    have hz : -1000000000000000000000 ≤ r ∧ r ≤ 1000000000000000000000 := hk0
    have hf1 := Int.fmod_nonneg_of_pos r (show (0 : Int) < 1000000 by decide)
    have hf2 := Int.fmod_lt_of_pos r (show (0 : Int) < 1000000 by decide)
    have hf3 : r ≠ 0 ∨ r.fmod 1000000 = 0 := by
      by_cases h : r = 0
      · exact .inr (by rw [h]; decide)
      · exact .inl h
    dsimp only [tupO, Op.kd, Op.val] at h1
    refine wpAny_call ?_
    k_dflt k_enter
    k_steps
    all_goals (first | exact ret _ _ _ _ _ _ (Eq.trans (sp_negR hk0) (by assumption)) (by assumption) (by assumption) | exact ret2 _ _ _ _ (Eq.trans (sp_negR hk0) (by assumption)) (by assumption) (by assumption))))

theorem e_abs {a1 : Addr} {o : Op} {t1 t2 tw : Tok} (hd : dp + 40 < recursionLimit) (hu : un + 400 < cLine) (N : News h₀ L s.heap (news))
    (h1 : (a1, tupO o t1 t2) ∈ news)
    (hA : o.num = true)
    (hk0 : OpOk o)
    (ret2 : ∀ b t' h' tk', absF o = .bad b → Fr h₀ L h' m → News h₀ L h' news → Q (.str (txt b) t') { s with heap := h', toks := tk' })
    (ret : ∀ oR D t1' t2' h' tk', absF o = .ok oR → Fr h₀ L h' m → News h₀ L h' ((D, tupO oR t1' t2') :: news) → Q (.ref D) { s with heap := h', toks := tk' })
    : wpAny (model Pg w) (ktrTop dp un gd cn cs L a ccd cl outer) (call (.ref 868) [.str (Str.ofString "abs") tw, .ref a1]) Q E s := wit (by exact Wit.get : Wit (by
  cases o with
  | bool b => cases hA
  | int i =>
    have hz : -2147483648 ≤ i ∧ i ≤ 2147483647 := hk0
    dsimp only [tupO, Op.kd, Op.val] at h1
    refine wpAny_call ?_
    k_dflt k_enter
    k_steps
    all_goals (first | exact ret _ _ _ _ _ _ (Eq.trans (sp_absI1 (by first | assumption | omega)) (by assumption)) (by assumption) (by assumption) | exact ret2 _ _ _ _ (Eq.trans (sp_absI1 (by first | assumption | omega)) (by assumption)) (by assumption) (by assumption) | exact ret _ _ _ _ _ _ (Eq.trans (sp_absI0 (by first | assumption | omega) hk0) (by assumption)) (by assumption) (by assumption) | exact ret2 _ _ _ _ (Eq.trans (sp_absI0 (by first | assumption | omega) hk0) (by assumption)) (by assumption) (by assumption))
  | real r =>
    have hz : -1000000000000000000000 ≤ r ∧ r ≤ 1000000000000000000000 := hk0
    have hf1 := Int.fmod_nonneg_of_pos r (show (0 : Int) < 1000000 by decide)
    have hf2 := Int.fmod_lt_of_pos r (show (0 : Int) < 1000000 by decide)
    have hf3 : r ≠ 0 ∨ r.fmod 1000000 = 0 := by
      by_cases h : r = 0
      · exact .inr (by rw [h]; decide)
      · exact .inl h
    dsimp only [tupO, Op.kd, Op.val] at h1
    refine wpAny_call ?_
    k_dflt k_enter
    k_steps
    all_goals (first | exact ret _ _ _ _ _ _ (Eq.trans (sp_absR1 (by first | assumption | omega) hk0) (by assumption)) (by assumption) (by assumption) | exact ret2 _ _ _ _ (Eq.trans (sp_absR1 (by first | assumption | omega) hk0) (by assumption)) (by assumption) (by assumption) | exact ret _ _ _ _ _ _ (Eq.trans (sp_absR0 (by first | assumption | omega) hk0) (by assumption)) (by assumption) (by assumption) | exact ret2 _ _ _ _ (Eq.trans (sp_absR0 (by first | assumption | omega) hk0) (by assumption)) (by assumption) (by assumption))))

theorem e_ceiling {a1 : Addr} {o : Op} {t1 t2 tw : Tok} (hd : dp + 40 < recursionLimit) (hu : un + 400 < cLine) (N : News h₀ L s.heap (news))
    (h1 : (a1, tupO o t1 t2) ∈ news)
    (hA : o.num = true)
    (hk0 : OpOk o)
    (ret2 : ∀ b t' h' tk', ceilF o = .bad b → Fr h₀ L h' m → News h₀ L h' news → Q (.str (txt b) t') { s with heap := h', toks := tk' })
    (ret : ∀ oR D t1' t2' h' tk', ceilF o = .ok oR → Fr h₀ L h' m → News h₀ L h' ((D, tupO oR t1' t2') :: news) → Q (.ref D) { s with heap := h', toks := tk' })
    : wpAny (model Pg w) (ktrTop dp un gd cn cs L a ccd cl outer) (call (.ref 868) [.str (Str.ofString "ceiling") tw, .ref a1]) Q E s := wit (by exact Wit.get : Wit (by
  cases o with
  | bool b => cases hA
  | int i =>
    have hz : -2147483648 ≤ i ∧ i ≤ 2147483647 := hk0
    dsimp only [tupO, Op.kd, Op.val] at h1
    refine wpAny_call ?_
    k_dflt k_enter
    k_steps
    all_goals (first | exact ret (.int _) _ _ _ _ _ rfl (by assumption) (selfN h1 (by assumption)))
  | real r =>
    have hz : -1000000000000000000000 ≤ r ∧ r ≤ 1000000000000000000000 := hk0
    have hf1 := Int.fmod_nonneg_of_pos r (show (0 : Int) < 1000000 by decide)
    have hf2 := Int.fmod_lt_of_pos r (show (0 : Int) < 1000000 by decide)
    have hf3 : r ≠ 0 ∨ r.fmod 1000000 = 0 := by
      by_cases h : r = 0
      · exact .inr (by rw [h]; decide)
      · exact .inl h
    dsimp only [tupO, Op.kd, Op.val] at h1
    refine wpAny_call ?_
    k_dflt k_enter
    k_steps
    all_goals (first | exact ret _ _ _ _ _ _ (Eq.trans (sp_ceil0 (by first | assumption | omega)) (by assumption)) (by assumption) (by assumption) | exact ret2 _ _ _ _ (Eq.trans (sp_ceil0 (by first | assumption | omega)) (by assumption)) (by assumption) (by assumption) | exact ret _ _ _ _ _ _ (Eq.trans (sp_ceil1 (by first | assumption | omega)) (by assumption)) (by assumption) (by assumption) | exact ret2 _ _ _ _ (Eq.trans (sp_ceil1 (by first | assumption | omega)) (by assumption)) (by assumption) (by assumption))))

theorem e_floor {a1 : Addr} {o : Op} {t1 t2 tw : Tok} (hd : dp + 40 < recursionLimit) (hu : un + 400 < cLine) (N : News h₀ L s.heap (news))
    (h1 : (a1, tupO o t1 t2) ∈ news)
    (hA : o.num = true)
    (hk0 : OpOk o)
    (ret2 : ∀ b t' h' tk', floorF o = .bad b → Fr h₀ L h' m → News h₀ L h' news → Q (.str (txt b) t') { s with heap := h', toks := tk' })
    (ret : ∀ oR D t1' t2' h' tk', floorF o = .ok oR → Fr h₀ L h' m → News h₀ L h' ((D, tupO oR t1' t2') :: news) → Q (.ref D) { s with heap := h', toks := tk' })
    : wpAny (model Pg w) (ktrTop dp un gd cn cs L a ccd cl outer) (call (.ref 868) [.str (Str.ofString "floor") tw, .ref a1]) Q E s := wit (by exact Wit.get : Wit (by
  cases o with
  | bool b => cases hA
  | int i =>
    have hz : -2147483648 ≤ i ∧ i ≤ 2147483647 := hk0
    dsimp only [tupO, Op.kd, Op.val] at h1
    refine wpAny_call ?_
    k_dflt k_enter
    k_steps
    all_goals (first | exact ret (.int _) _ _ _ _ _ rfl (by assumption) (selfN h1 (by assumption)))
  | real r =>
    have hz : -1000000000000000000000 ≤ r ∧ r ≤ 1000000000000000000000 := hk0
    have hf1 := Int.fmod_nonneg_of_pos r (show (0 : Int) < 1000000 by decide)
    have hf2 := Int.fmod_lt_of_pos r (show (0 : Int) < 1000000 by decide)
    have hf3 : r ≠ 0 ∨ r.fmod 1000000 = 0 := by
      by_cases h : r = 0
      · exact .inr (by rw [h]; decide)
      · exact .inl h
    dsimp only [tupO, Op.kd, Op.val] at h1
    refine wpAny_call ?_
    k_dflt k_enter
    k_steps
    all_goals (first | exact ret _ _ _ _ _ _ (Eq.trans (sp_floor _) (by assumption)) (by assumption) (by assumption) | exact ret2 _ _ _ _ (Eq.trans (sp_floor _) (by assumption)) (by assumption) (by assumption))))

theorem e_round {a1 : Addr} {o : Op} {t1 t2 tw : Tok} (hd : dp + 40 < recursionLimit) (hu : un + 400 < cLine) (N : News h₀ L s.heap (news))
    (h1 : (a1, tupO o t1 t2) ∈ news)
    (hA : o.num = true)
    (hk0 : OpOk o)
    (ret2 : ∀ b t' h' tk', roundF o = .bad b → Fr h₀ L h' m → News h₀ L h' news → Q (.str (txt b) t') { s with heap := h', toks := tk' })
    (ret : ∀ oR D t1' t2' h' tk', roundF o = .ok oR → Fr h₀ L h' m → News h₀ L h' ((D, tupO oR t1' t2') :: news) → Q (.ref D) { s with heap := h', toks := tk' })
    : wpAny (model Pg w) (ktrTop dp un gd cn cs L a ccd cl outer) (call (.ref 868) [.str (Str.ofString "round") tw, .ref a1]) Q E s := wit (by exact Wit.get : Wit (by
  cases o with
  | bool b => cases hA
  | int i =>
    have hz : -2147483648 ≤ i ∧ i ≤ 2147483647 := hk0
    dsimp only [tupO, Op.kd, Op.val] at h1
    refine wpAny_call ?_
    k_dflt k_enter
    k_steps
    all_goals (first | exact ret (.int _) _ _ _ _ _ rfl (by assumption) (selfN h1 (by assumption)))
  | real r =>
    have hz : -1000000000000000000000 ≤ r ∧ r ≤ 1000000000000000000000 := hk0
    have hf1 := Int.fmod_nonneg_of_pos r (show (0 : Int) < 1000000 by decide)
    have hf2 := Int.fmod_lt_of_pos r (show (0 : Int) < 1000000 by decide)
    have hf3 : r ≠ 0 ∨ r.fmod 1000000 = 0 := by
      by_cases h : r = 0
      · exact .inr (by rw [h]; decide)
      · exact .inl h
    dsimp only [tupO, Op.kd, Op.val] at h1
    refine wpAny_call ?_
    k_dflt k_enter
    k_steps
    all_goals (first | exact ret _ _ _ _ _ _ (sp_roundT (by assumption) (by split <;> omega)) (by assumption) (by assumption) | exact ret2 _ _ _ _ (sp_roundT (by assumption) (by split <;> omega)) (by assumption) (by assumption))))

theorem e_truncate {a1 : Addr} {o : Op} {t1 t2 tw : Tok} (hd : dp + 40 < recursionLimit) (hu : un + 400 < cLine) (N : News h₀ L s.heap (news))
    (h1 : (a1, tupO o t1 t2) ∈ news)
    (hA : o.num = true)
    (hk0 : OpOk o)
    (ret2 : ∀ b t' h' tk', truncF o = .bad b → Fr h₀ L h' m → News h₀ L h' news → Q (.str (txt b) t') { s with heap := h', toks := tk' })
    (ret : ∀ oR D t1' t2' h' tk', truncF o = .ok oR → Fr h₀ L h' m → News h₀ L h' ((D, tupO oR t1' t2') :: news) → Q (.ref D) { s with heap := h', toks := tk' })
    : wpAny (model Pg w) (ktrTop dp un gd cn cs L a ccd cl outer) (call (.ref 868) [.str (Str.ofString "truncate") tw, .ref a1]) Q E s := wit (by exact Wit.get : Wit (by
  cases o with
  | bool b => cases hA
  | int i =>
    have hz : -2147483648 ≤ i ∧ i ≤ 2147483647 := hk0
    dsimp only [tupO, Op.kd, Op.val] at h1
    refine wpAny_call ?_
    k_dflt k_enter
    k_steps
    all_goals (first | exact ret (.int _) _ _ _ _ _ rfl (by assumption) (selfN h1 (by assumption)))
  | real r =>
    have hz : -1000000000000000000000 ≤ r ∧ r ≤ 1000000000000000000000 := hk0
    have hf1 := Int.fmod_nonneg_of_pos r (show (0 : Int) < 1000000 by decide)
    have hf2 := Int.fmod_lt_of_pos r (show (0 : Int) < 1000000 by decide)
    have hf3 : r ≠ 0 ∨ r.fmod 1000000 = 0 := by
      by_cases h : r = 0
      · exact .inr (by rw [h]; decide)
      · exact .inl h
    dsimp only [tupO, Op.kd, Op.val] at h1
    refine wpAny_call ?_
    k_dflt k_enter
    k_steps
    all_goals (first | exact ret _ _ _ _ _ _ (sp_truncT (by assumption) hk0 (by split <;> omega)) (by assumption) (by assumption) | exact ret2 _ _ _ _ (sp_truncT (by assumption) hk0 (by split <;> omega)) (by assumption) (by assumption))))


end
section

theorem c_pair {c : Wd} {a1 a2 : Addr} {o1 o2 : Op} {t1 t2 t3 t4 tw : Tok} (hd : dp + 60 < recursionLimit) (hu : un + 600 < cLine) (N : News h₀ L s.heap (news))
    (hp : c.pr)
    (h1 : (a1, tupO o1 t1 t2) ∈ news)
    (h2 : (a2, tupO o2 t3 t4) ∈ news)
    (hA : o1.num = true)
    (hB : o2.num = true)
    (hk1 : OpOk o1)
    (hk2 : OpOk o2)
    (ret2 : ∀ b t' h' tk', pairF c o1 o2 = .bad b → Fr h₀ L h' m → News h₀ L h' news → Q (.str (txt b) t') { s with heap := h', toks := tk' })
    (ret : ∀ oR D t1' t2' h' tk', pairF c o1 o2 = .ok oR → Fr h₀ L h' m → News h₀ L h' ((D, tupO oR t1' t2') :: news) → Q (.ref D) { s with heap := h', toks := tk' })
    : wpAny (model Pg w) (ktrTop dp un gd cn cs L a ccd cl outer) (call (.ref 873) [.str c.str tw, .ref a1, .ref a2]) Q E s := wit (by exact Wit.get : Wit (by
  k_with "off10" => skip
  k_with "my compareOp In str ref" => ((fail_if_success (k_extra "off11")); k_here; (with_reducible show wpAny _ _ (compareOp CmpOp.In (Value.str _ _) (Value.ref _)) _ _ _); (with_unfolding_all refine' in_tuple_strs (by first | exact News.isTup (by k_asm) (by k_mem) | exact kun_topT (by k_asm) (by k_asm) (by k_is) | fail) (by first | kde_strs | fail) ?_; k_whole))
  k_with "my call ref" => ((fail_if_success (k_extra "off11")); k_here; (with_reducible show wpAny _ _ (call (Value.ref 854) [Value.int _ _]) _ _ _); k_dflt (refine' c_lwhole (by k_asm) (by k_asm) (by k_asm) (by k_asm) (by first | exact rfl | assumption | fail) (by k_room) (by k_extra "units") (by k_asm) (by first | assumption | (k_extra "bnd") | fail) ?_ ?_); intro b'_k t'_k h'_k tk'_k hr'_k F'_k N'_k; (try dsimp only); (try k_sweep); rotate_left; intro o'_k D'_k t1'_k t2'_k h'_k tk'_k hr'_k F'_k N'_k; (try dsimp only); (try k_sweep); rotate_left)
  k_with "my exec Assign cons ListComp" => ((fail_if_success (k_extra "off11")); k_here; (with_reducible show wpAny _ _ (exec (Stmt.Assign [Expr.Tuple _ _ _] _ _) _) _ _ _); k_dflt (refine Assign_Tuple ?_))
  k_with "my eval ListComp" => ((fail_if_success (k_extra "off11")); k_here; k_dflt (refine twoC (by k_asm) (by rfl) (by with_unfolding_all rfl) (by decide) (by rfl) (by decide) (by rfl) (by rfl) (by decide) ?_))
  k_with "my TwoSrc" => ((fail_if_success (k_extra "off11")); k_here; k_dflt (refine TwoSrc.mil (by k_asm) (by k_asm) (by k_mem) (by k_mem) (by k_mem) (by assumption) (by assumption) (by assumption) (by assumption) ?_ ?_ ?_); (intro i'_k u1'_k u2'_k C'_k oC'_k m2'_k h'_k tk'_k Q'_k E'_k b1'_k b2'_k hC'_k hx'_k hy'_k F'_k N'_k hq'_k; (try dsimp only)); rotate_left; (intro i'_k u1'_k u2'_k C'_k oC'_k m2'_k h'_k tk'_k Q'_k E'_k b1'_k b2'_k hC'_k hx'_k hy'_k F'_k N'_k hq'_k; (try dsimp only)); rotate_left; (intro D'_k h'_k tk'_k u0'_k u1'_k F'_k N'_k; (try dsimp only)); rotate_left)
  k_with "my getMethod ref" => ((fail_if_success (k_extra "off11")); k_here; (with_reducible show wpAny _ _ (getMethod (Value.ref _) (PySem.Str.ofString "index") _) _ _ _); k_dflt (refine' tup_meth (by k_asm) (by k_mem) ?_); (try ((rename Wd => c9_k); (rcases in_cmp (by assumption) with h9_k | h9_k | h9_k | h9_k | h9_k | h9_k) <;> (subst h9_k))))
  k_with "my call builtin:tuple.index" => ((fail_if_success (k_extra "off11")); k_here; k_dflt (first | (refine' idx_eq (by k_asm) (by k_mem) ?_) | (refine' idx_ne (by k_asm) (by k_mem) ?_) | (refine' idx_lt (by k_asm) (by k_mem) ?_) | (refine' idx_gt (by k_asm) (by k_mem) ?_) | (refine' idx_le (by k_asm) (by k_mem) ?_) | (refine' idx_ge (by k_asm) (by k_mem) ?_)))
  k_with "my eval Dict" => ((fail_if_success (k_extra "off11")); k_here; (rename Wd => c9_k); (obtain ⟨i9_k, j9_k, h9_k, h8_k, h7_k, h6_k⟩ := kdII (by assumption) (by assumption) (by assumption)); (subst h9_k); (subst h8_k); (have h5_k := mul32 h7_k h6_k); (unfold fitsI at h7_k h6_k); (rcases in_ar (by assumption) (by assumption) (by assumption) with h9_k | h9_k | h9_k) <;> (subst h9_k))
  k_with "my binaryOp" => ((fail_if_success (k_extra "off11")); k_here; dsimp only [Op.val])
  have hz1 := okTn hk1
  have hz2 := okTn hk2
  have z1 : -1000000000000000000000 ≤ o1.mil ∧ o1.mil ≤ 1000000000000000000000 := hz1
  have z2 : -1000000000000000000000 ≤ o2.mil ∧ o2.mil ≤ 1000000000000000000000 := hz2
  have hpin : Pin o1 o2 := ⟨hk1, hk2⟩
  refine wpAny_call ?_
  k_dflt k_enter
  k_steps
  all_goals (first | exact ret _ _ _ _ _ _ (by assumption) (by assumption) (News.sub (by assumption) (by walk_at "my_subP")) | exact ret2 _ _ _ _ (by assumption) (by assumption) (News.sub (by assumption) (by walk_at "k_sub")) | ((have h9 := is_div (by assumption)); (subst h9); first | exact ret _ _ _ _ _ _ (quT (by assumption) (by assumption) (by assumption)) (by assumption) (News.sub (by assumption) (by walk_at "my_subP")) | exact ret2 _ _ _ _ (quT (by assumption) (by assumption) (by assumption)) (by assumption) (News.sub (by assumption) (by walk_at "k_sub")) | (rw [← txt_ur]; exact ret2 undefinedresult _ _ _ (qZ (by assumption)) (by assumption) (News.sub (by assumption) (by walk_at "k_sub")))) | ((have h9 := is_mul (by assumption)); (subst h9); first | exact ret _ _ _ _ _ _ ((mulM (by first | exact nI1 (by assumption) | exact nI2 (by assumption))).trans (mulT (by assumption) (by assumption))) (by assumption) (News.sub (by assumption) (by walk_at "my_subP")) | exact ret2 _ _ _ _ ((mulM (by first | exact nI1 (by assumption) | exact nI2 (by assumption))).trans (mulT (by assumption) (by assumption))) (by assumption) (News.sub (by assumption) (by walk_at "k_sub"))) | ((have h9 := is_add (by assumption)); (subst h9); first | exact ret _ _ _ _ _ _ ((addM (by first | exact nI1 (by assumption) | exact nI2 (by assumption))).trans (by assumption)) (by assumption) (News.sub (by assumption) (by walk_at "my_subP")) | exact ret2 _ _ _ _ ((addM (by first | exact nI1 (by assumption) | exact nI2 (by assumption))).trans (by assumption)) (by assumption) (News.sub (by assumption) (by walk_at "k_sub"))) | ((have h9 := is_sub' (by assumption) (by assumption) (by assumption) (by assumption) (by assumption)); (subst h9); first | exact ret _ _ _ _ _ _ ((subM (by first | exact nI1 (by assumption) | exact nI2 (by assumption))).trans (by assumption)) (by assumption) (News.sub (by assumption) (by walk_at "my_subP")) | exact ret2 _ _ _ _ ((subM (by first | exact nI1 (by assumption) | exact nI2 (by assumption))).trans (by assumption)) (by assumption) (News.sub (by assumption) (by walk_at "k_sub"))) | (refine' ret (.bool _) _ _ 0 _ _ ?sp ?fr ?nn; (case fr => assumption); (case nn => exact News.sub (by assumption) (by walk_at "my_subP")); (case sp => first | rfl | (show Res.ok (Op.bool (eqB o1 o2)) = _; rw [eqB_num hA hB]; rfl) | (show Res.ok (Op.bool (!eqB o1 o2)) = _; rw [eqB_num hA hB]; rfl) | exact congrArg (fun z => Res.ok (Op.bool z)) (nlt _ _))) | (apply_assumption; done))))


end
section
theorem c_lone {c : Wd} {a1 : Addr} {o : Op} {t1 t2 tw : Tok} (hd : dp + 40 < recursionLimit) (hu : un + 400 < cLine) (N : News h₀ L s.heap (news))
    (hc : c.un = true)
    (h1 : (a1, tupO o t1 t2) ∈ news)
    (hA : o.num = true)
    (hk0 : OpOk o)
    (ret2 : ∀ b t' h' tk', loneF c o = .bad b → Fr h₀ L h' m → News h₀ L h' news → Q (.str (txt b) t') { s with heap := h', toks := tk' })
    (ret : ∀ oR D t1' t2' h' tk', loneF c o = .ok oR → Fr h₀ L h' m → News h₀ L h' ((D, tupO oR t1' t2') :: news) → Q (.ref D) { s with heap := h', toks := tk' })
    : wpAny (model Pg w) (ktrTop dp un gd cn cs L a ccd cl outer) (call (.ref 868) [.str c.str tw, .ref a1]) Q E s := by
  k_with "off11" => skip
  k_with "my subscriptTail" => ((fail_if_success (k_extra "off12")); k_here; (with_reducible show wpAny _ _ (subscriptTail _ _ (Value.ref _) (Value.int (-1) _)) _ _ _); k_dflt (first | (refine' it1 (by k_asm) (by k_mem) ?_ (by first | with_unfolding_all rfl | fail)) | (refine' it2 (by k_asm) (by k_mem) ?_ (by first | with_unfolding_all rfl | fail))))
  k_with "my subscriptTail Name" => ((fail_if_success (k_extra "off12")); k_here; (with_reducible show wpAny _ _ (subscriptTail _ _ (Value.ref _) (Value.int (-1) _)) _ _ _); k_dflt (first | (refine' it1 (by k_asm) (by k_mem) ?_ (by first | with_unfolding_all rfl | fail)) | (refine' it2 (by k_asm) (by k_mem) ?_ (by first | with_unfolding_all rfl | fail))))
  k_with "my subscriptTail Subscript" => ((fail_if_success (k_extra "off12")); k_here; (with_reducible show wpAny _ _ (subscriptTail _ _ (Value.ref _) (Value.int (-1) _)) _ _ _); k_dflt (first | (refine' it1 (by k_asm) (by k_mem) ?_ (by first | with_unfolding_all rfl | fail)) | (refine' it2 (by k_asm) (by k_mem) ?_ (by first | with_unfolding_all rfl | fail))))
  k_with "my subscriptTail" => ((fail_if_success (k_extra "off12")); k_here; (with_reducible show wpAny _ _ (subscriptTail _ _ (Value.ref _) (Value.int (-2) _)) _ _ _); k_dflt (first | (refine' it3 (by k_asm) (by k_mem) ?_ (by first | with_unfolding_all rfl | fail))))
  k_with "my subscriptTail Name" => ((fail_if_success (k_extra "off12")); k_here; (with_reducible show wpAny _ _ (subscriptTail _ _ (Value.ref _) (Value.int (-2) _)) _ _ _); k_dflt (first | (refine' it3 (by k_asm) (by k_mem) ?_ (by first | with_unfolding_all rfl | fail))))
  k_with "my subscriptTail Subscript" => ((fail_if_success (k_extra "off12")); k_here; (with_reducible show wpAny _ _ (subscriptTail _ _ (Value.ref _) (Value.int (-2) _)) _ _ _); k_dflt (first | (refine' it3 (by k_asm) (by k_mem) ?_ (by first | with_unfolding_all rfl | fail))))
  cases c <;> first | exact absurd hc (by decide) | exact e_neg B F X T hk hd hu N h1 hA hk0 ret2 ret | exact e_abs B F X T hk hd hu N h1 hA hk0 ret2 ret | exact e_ceiling B F X T hk hd hu N h1 hA hk0 ret2 ret | exact e_floor B F X T hk hd hu N h1 hA hk0 ret2 ret | exact e_round B F X T hk hd hu N h1 hA hk0 ret2 ret | exact e_truncate B F X T hk hd hu N h1 hA hk0 ret2 ret

theorem due_l1 {c : Wd} {SO : Addr} {n : Nat} {tw : Tok} (hd : dp + 60 < recursionLimit) (hu : un + 600 < cLine) (N : News h₀ L s.heap (news))
    (hc : c.un = true)
    (hS : (SO, listOf #[] n) ∈ news)
    (ret : ∀ b t' h' tk', b = stackunderflow → Fr h₀ L h' m → News h₀ L h' news → Q (.str (txt b) t') { s with heap := h', toks := tk' })
    : wpAny (model Pg w) (ktrTop dp un gd cn cs L a ccd cl outer) (call (.ref 878) [.str c.str tw, .ref SO]) Q E s := wit (by exact Wit.get : Wit (by
  k_with "my compareOp In str ref" => ((fail_if_success (k_extra "off12")); k_here; (with_reducible show wpAny _ _ (compareOp CmpOp.In (Value.str _ _) (Value.ref _)) _ _ _); (with_unfolding_all refine' in_b (by first | exact News.isTup (by k_asm) (by k_mem) | exact kun_topT (by k_asm) (by k_asm) (by k_is) | fail) (by first | kde_strs | fail) (by first | exact (un_any _).trans (by assumption) | exact un_enF (by assumption) | exact un_imF (by assumption) | exact rfl | fail) ?_; k_whole))
  refine wpAny_call ?_
  k_dflt k_enter
  k_steps
  all_goals (first | (rw [← txt_su]; exact ret _ _ _ _ rfl (by assumption) (News.sub (by assumption) (by walk_at "k_sub"))))))

theorem due_l2 {c : Wd} {SO D1 : Addr} {n : Nat} {tw : Tok} (hd : dp + 60 < recursionLimit) (hu : un + 600 < cLine) (N : News h₀ L s.heap (news))
    (hc : c.un = false)
    (hS : (SO, listOf #[.ref D1] n) ∈ news)
    (ret : ∀ b t' h' tk', b = stackunderflow → Fr h₀ L h' m → News h₀ L h' news → Q (.str (txt b) t') { s with heap := h', toks := tk' })
    : wpAny (model Pg w) (ktrTop dp un gd cn cs L a ccd cl outer) (call (.ref 878) [.str c.str tw, .ref SO]) Q E s := wit (by exact Wit.get : Wit (by
  refine wpAny_call ?_
  k_dflt k_enter
  k_steps
  all_goals (first | (rw [← txt_su]; exact ret _ _ _ _ rfl (by assumption) (News.sub (by assumption) (by walk_at "k_sub"))))))



theorem due_1 {c : Wd} {SO D1 : Addr} {n : Nat} {o : Op} {t1 t2 tw : Tok} (hd : dp + 60 < recursionLimit) (hu : un + 600 < cLine) (N : News h₀ L s.heap (news))
    (hc : c.un = true)
    (hS : (SO, listOf #[.ref D1] n) ∈ news)
    (h1 : (D1, tupO o t1 t2) ∈ news)
    (hk0 : OpOk o)
    (ret2 : ∀ b t' h' tk', numF1 (loneF c) o = .bad b → Fr h₀ L h' m → News h₀ L h' news → Q (.str (txt b) t') { s with heap := h', toks := tk' })
    (ret : ∀ oR D t1' t2' h' tk', numF1 (loneF c) o = .ok oR → Fr h₀ L h' m → News h₀ L h' ((D, tupO oR t1' t2') :: news) → Q (.ref D) { s with heap := h', toks := tk' })
    : wpAny (model Pg w) (ktrTop dp un gd cn cs L a ccd cl outer) (call (.ref 878) [.str c.str tw, .ref SO]) Q E s := wit (by exact Wit.get : Wit (by
  k_with "my call ref" => ((fail_if_success (k_extra "off12")); k_here; (with_reducible show wpAny _ _ (call (Value.ref 868) [Value.str _ _, Value.ref _]) _ _ _); k_dflt (refine' c_lone (by k_asm) (by k_asm) (by k_asm) (by k_asm) (by first | exact rfl | assumption | fail) (by k_room) (by k_extra "units") (by k_asm) (by assumption) (by k_mem) (by assumption) (by assumption) ?_ ?_); intro b'_k t'_k h'_k tk'_k hr'_k F'_k N'_k; (try dsimp only); (try k_sweep); rotate_left; intro o'_k D'_k t1'_k t2'_k h'_k tk'_k hr'_k F'_k N'_k; (try dsimp only); (try k_sweep); rotate_left)
  k_with "my CompEnd" => ((fail_if_success (k_extra "off12")); k_here; k_dflt (refine LCg.CompEnd.intro (by k_asm) (by k_asm) _ (fun p hp => hp) (by assumption) (by lcg_src) ?_))
  k_with "my call ref" => ((fail_if_success (k_extra "off12")); k_here; (with_reducible show wpAny _ _ (call (Value.ref 868) [Value.str _ _, Value.ref _]) _ _ _); k_dflt (refine' c_lone (by k_asm) (by k_asm) (by k_asm) (by k_asm) (by first | exact rfl | assumption | fail) (by k_room) (by k_extra "units") (by k_asm) (by assumption) (by k_mem) (by first | assumption | exact boolIn1' (by assumption) | fail) (by assumption) ?_ ?_); intro b'_k t'_k h'_k tk'_k hr'_k F'_k N'_k; (try dsimp only); (try k_sweep); rotate_left; intro o'_k D'_k t1'_k t2'_k h'_k tk'_k hr'_k F'_k N'_k; (try dsimp only); (try k_sweep); rotate_left)
  refine wpAny_call ?_
  k_dflt k_enter
  k_steps
  all_goals (first | (rw [← txt_tc]; exact ret2 _ _ _ _ (n1ty (boolIn1 (by assumption))) (by assumption) (News.sub (by assumption) (by walk_at "k_sub"))) | exact ret _ _ _ _ _ _ (n1ok (boolIn1' (by assumption)) (by assumption)) (by assumption) (News.sub (by assumption) (by walk_at "my_subP")) | exact ret2 _ _ _ _ (n1ok (boolIn1' (by assumption)) (by assumption)) (by assumption) (News.sub (by assumption) (by walk_at "k_sub")))))


end
section

theorem due_2 {c : Wd} {SO D1 D2 : Addr} {n : Nat} {o1 o2 : Op} {t1 t2 t3 t4 tw : Tok} (hd : dp + 70 < recursionLimit) (hu : un + 700 < cLine) (N : News h₀ L s.heap (news))
    (hc : c.un = false)
    (hS : (SO, listOf #[.ref D1, .ref D2] n) ∈ news)
    (h1 : (D1, tupO o1 t1 t2) ∈ news)
    (h2 : (D2, tupO o2 t3 t4) ∈ news)
    (hk1 : OpOk o1)
    (hk2 : OpOk o2)
    (ret2 : ∀ b t' h' tk', machF2 c o1 o2 = .bad b → Fr h₀ L h' m → News h₀ L h' news → Q (.str (txt b) t') { s with heap := h', toks := tk' })
    (ret : ∀ oR D t1' t2' h' tk', machF2 c o1 o2 = .ok oR → Fr h₀ L h' m → News h₀ L h' ((D, tupO oR t1' t2') :: news) → Q (.ref D) { s with heap := h', toks := tk' })
    : wpAny (model Pg w) (ktrTop dp un gd cn cs L a ccd cl outer) (call (.ref 878) [.str c.str tw, .ref SO]) Q E s := wit (by exact Wit.get : Wit (by
  k_with "off12" => skip
  k_with "my compareOp NotIn str ref" => ((fail_if_success (k_extra "off13")); k_here; (with_reducible show wpAny _ _ (compareOp CmpOp.NotIn (Value.str _ _) (Value.ref _)) _ _ _); (with_unfolding_all refine' notin_b (by first | exact News.isTup (by k_asm) (by k_mem) | exact kun_topT (by k_asm) (by k_asm) (by k_is) | fail) (by first | kde_strs | fail) (by first | exact en_imF (by assumption) | assumption | fail) ?_; k_whole); (try dsimp only [Bool.not_true, Bool.not_false]))
  k_with "my compareOp Eq ref ref" => ((fail_if_success (k_extra "off13")); k_here; (with_reducible show wpAny _ _ (compareOp CmpOp.Eq (Value.ref _) (Value.ref _)) _ _ _); k_dflt (first
  | (refine' eq_kinds (by k_asm) (by k_asm) (by k_mem) (by k_mem) (by first | exact kd_ok _ | decide +kernel | fail) (by first | exact kd_ok _ | decide +kernel | fail) (by first | exact kd_ok _ | decide +kernel | fail) (by first | exact kd_ok _ | decide +kernel | fail) (by k_extra "units") ?_)
  | (refine' eq_ops (by k_asm) (by k_asm) (by k_mem) (by k_mem) (by k_extra "units") ?_)))
  k_with "my compareOp In str ref" => ((fail_if_success (k_extra "off13")); k_here; (with_reducible show wpAny _ _ (compareOp CmpOp.In (Value.str _ _) (Value.ref _)) _ _ _); (with_unfolding_all refine' in_tuple_strs (by first | exact News.isTup (by k_asm) (by k_mem) | exact kun_topT (by k_asm) (by k_asm) (by k_is) | fail) (by first | kde_strs | fail) ?_; k_whole))
  k_with "my compareOp In str ref" => ((fail_if_success (k_extra "off13")); k_here; (with_reducible show wpAny _ _ (compareOp CmpOp.In (Value.str _ _) (Value.ref _)) _ _ _); (with_unfolding_all refine' in_b (by first | exact News.isTup (by k_asm) (by k_mem) | exact kun_topT (by k_asm) (by k_asm) (by k_is) | fail) (by first | kde_strs | fail) (by first | exact (un_any _).trans (by assumption) | exact un_enF (by assumption) | exact un_imF (by assumption) | exact en_imF (by assumption) | exact rfl | fail) ?_; k_whole))
  k_with "my subscriptTail" => ((fail_if_success (k_extra "off13")); k_here; (with_reducible show wpAny _ _ (subscriptTail _ _ (Value.ref _) (Value.int (-1) _)) _ _ _); k_dflt (first | (refine' it1 (by k_asm) (by k_mem) ?_ (by first | with_unfolding_all rfl | fail)) | (refine' it2 (by k_asm) (by k_mem) ?_ (by first | with_unfolding_all rfl | fail))))
  k_with "my subscriptTail Name" => ((fail_if_success (k_extra "off13")); k_here; (with_reducible show wpAny _ _ (subscriptTail _ _ (Value.ref _) (Value.int (-1) _)) _ _ _); k_dflt (first | (refine' it1 (by k_asm) (by k_mem) ?_ (by first | with_unfolding_all rfl | fail)) | (refine' it2 (by k_asm) (by k_mem) ?_ (by first | with_unfolding_all rfl | fail))))
  k_with "my subscriptTail Subscript" => ((fail_if_success (k_extra "off13")); k_here; (with_reducible show wpAny _ _ (subscriptTail _ _ (Value.ref _) (Value.int (-1) _)) _ _ _); k_dflt (first | (refine' it1 (by k_asm) (by k_mem) ?_ (by first | with_unfolding_all rfl | fail)) | (refine' it2 (by k_asm) (by k_mem) ?_ (by first | with_unfolding_all rfl | fail))))
  k_with "my subscriptTail" => ((fail_if_success (k_extra "off13")); k_here; (with_reducible show wpAny _ _ (subscriptTail _ _ (Value.ref _) (Value.int (-2) _)) _ _ _); k_dflt (first | (refine' it3 (by k_asm) (by k_mem) ?_ (by first | with_unfolding_all rfl | fail))))
  k_with "my subscriptTail Name" => ((fail_if_success (k_extra "off13")); k_here; (with_reducible show wpAny _ _ (subscriptTail _ _ (Value.ref _) (Value.int (-2) _)) _ _ _); k_dflt (first | (refine' it3 (by k_asm) (by k_mem) ?_ (by first | with_unfolding_all rfl | fail))))
  k_with "my subscriptTail Subscript" => ((fail_if_success (k_extra "off13")); k_here; (with_reducible show wpAny _ _ (subscriptTail _ _ (Value.ref _) (Value.int (-2) _)) _ _ _); k_dflt (first | (refine' it3 (by k_asm) (by k_mem) ?_ (by first | with_unfolding_all rfl | fail))))
  k_with "my subscriptTail" => ((fail_if_success (k_extra "off13")); k_here; (with_reducible show wpAny _ _ (subscriptTail _ _ (Value.ref _) (Value.int 1 _)) _ _ _); k_dflt (refine' item_int (by k_asm) (by k_mem) (by first | exact (twoI (by assumption) (by assumption)).1 | exact (twoI (by assumption) (by assumption)).2 | fail) (by assumption) ?_ (by first | with_unfolding_all rfl | fail)); intro i'_k hi'_k b1'_k b2'_k; (try dsimp only))
  k_with "my subscriptTail Name" => ((fail_if_success (k_extra "off13")); k_here; (with_reducible show wpAny _ _ (subscriptTail _ _ (Value.ref _) (Value.int 1 _)) _ _ _); k_dflt (refine' item_int (by k_asm) (by k_mem) (by first | exact (twoI (by assumption) (by assumption)).1 | exact (twoI (by assumption) (by assumption)).2 | fail) (by assumption) ?_ (by first | with_unfolding_all rfl | fail)); intro i'_k hi'_k b1'_k b2'_k; (try dsimp only))
  k_with "my subscriptTail Subscript" => ((fail_if_success (k_extra "off13")); k_here; (with_reducible show wpAny _ _ (subscriptTail _ _ (Value.ref _) (Value.int 1 _)) _ _ _); k_dflt (refine' item_int (by k_asm) (by k_mem) (by first | exact (twoI (by assumption) (by assumption)).1 | exact (twoI (by assumption) (by assumption)).2 | fail) (by assumption) ?_ (by first | with_unfolding_all rfl | fail)); intro i'_k hi'_k b1'_k b2'_k; (try dsimp only))
  k_with "my CompEnd" => ((fail_if_success (k_extra "off13")); k_here; k_dflt (refine LCg.CompEnd.intro (by k_asm) (by k_asm) _ (fun p hp => hp) (by assumption) (by lcg_src) ?_))
  k_with "my call ref" => ((fail_if_success (k_extra "off13")); k_here; (with_reducible show wpAny _ _ (call (Value.ref 873) [Value.str _ _, Value.ref _, Value.ref _]) _ _ _); k_dflt (refine' c_pair (by k_asm) (by k_asm) (by k_asm) (by k_asm) (by first | exact rfl | assumption | fail) (by k_room) (by k_extra "units") (by k_asm) (by first | assumption | exact prOf (by assumption) (by first | assumption | exact en_imF (by assumption)) | fail) (by k_mem) (by k_mem) (by first | assumption | exact (twoB (by assumption)).1 | fail) (by first | assumption | exact (twoB (by assumption)).2 | fail) (by assumption) (by assumption) ?_ ?_); intro b'_k t'_k h'_k tk'_k hr'_k F'_k N'_k; (try dsimp only); (try k_sweep); rotate_left; intro o'_k D'_k t1'_k t2'_k h'_k tk'_k hr'_k F'_k N'_k; (try dsimp only); (try k_sweep); rotate_left)
  refine wpAny_call ?_
  k_dflt k_enter
  k_steps
  all_goals (first | (rw [← txt_tc]; exact ret2 _ _ _ _ (by first | exact enT (by assumption) hc (by assumption) | exact imT (by assumption) (by assumption)) (by assumption) (News.sub (by assumption) (by walk_at "k_sub"))) | exact ret _ _ _ _ _ _ (pairM hc (by first | exact en_imF (by assumption) | assumption) (by assumption) (by assumption)) (by assumption) (News.sub (by assumption) (by walk_at "my_subP")) | exact ret2 _ _ _ _ (pairM hc (by first | exact en_imF (by assumption) | assumption) (by assumption) (by assumption)) (by assumption) (News.sub (by assumption) (by walk_at "k_sub")) | (rw [← txt_ur]; exact ret2 _ _ _ _ (by first | exact imZ (by assumption) (by assumption) (by assumption) (by assumption) | exact idB (by assumption) (by assumption) (by assumption) (by assumption) (by assumption) (by assumption) (by assumption) (by assumption) (by first | exact .inl ⟨by assumption, rfl⟩ | exact .inr ⟨by assumption, rfl⟩)) (by assumption) (News.sub (by assumption) (by walk_at "k_sub"))) | (refine' ret (.bool _) _ _ 0 _ _ ?sp ?fr ?nn; (case fr => assumption); (case nn => exact (News.sub (by assumption) (by walk_at "my_subP"))); (case sp => first | exact enE1 (by assumption) (by assumption) (by assumption) | exact enE2 (by assumption) (by assumption) | exact enE3 (by assumption) (by assumption) (by assumption))) | (refine' ret (.int _) _ _ _ _ _ ?sp ?fr ?nn; (case fr => assumption); (case nn => exact (News.sub (by assumption) (by walk_at "my_subP"))); (case sp => first | exact moE1 (by assumption) (by assumption) (by assumption) (by assumption) (by assumption) | exact moE2 (by assumption) (by assumption) (by assumption) (by assumption) (by assumption) | exact idO (by assumption) (by assumption) (by assumption) (by assumption) (by assumption) (by assumption) (by assumption) (by assumption) (by first | exact .inl ⟨by assumption, rfl⟩ | exact .inr ⟨by assumption, rfl⟩))))))


end
section
theorem c_draw {TP SL : Addr} {i sz : Int} {ti t0 : Tok} {n k : Nat} {vs : List Value} {ns : List Int} (hd : dp + 5 < recursionLimit) (hu : un + 50 < cLine) (N : News h₀ L s.heap ((TP, listOf #[.ref SL, .int i ti] n) :: news))
    (hS : (SL, listOf vs.toArray k) ∈ news)
    (hi : IntsAre vs ns)
    (h0 : 0 ≤ i)
    (hlen : vs.length ≤ 60)
    (hsz : 0 < sz)
    (hsz2 : sz < 10000000000000)
    (hT : ∀ q ∈ news, q.1 ≠ TP)
    (ret : ∀ v t' i' ti' n' h' tk', 0 ≤ v → v < sz → 0 ≤ i' → Fr h₀ L h' m → News h₀ L h' ((TP, listOf #[.ref SL, .int i' ti'] n') :: news) → Q (.int v t') { s with heap := h', toks := tk' })
    : wpAny (model Pg w) (ktrTop dp un gd cn cs L a ccd cl outer) (call (.ref 833) [.ref TP, .int sz t0]) Q E s := wit (by exact Wit.get : Wit (by
  k_with "off13" => skip
  k_with "my call builtin:len" => ((fail_if_success (k_extra "off14")); k_here; (with_reducible show wpAny _ _ (call (Value.builtin "len") [Value.ref _]) _ _ _); k_dflt (refine' len_sl (by k_asm) (by k_mem) (by assumption) ?_))
  k_with "my subscriptTail" => ((fail_if_success (k_extra "off14")); k_here; (with_reducible show wpAny _ _ (subscriptTail _ _ (Value.ref _) (Value.int _ _)) _ _ _); k_dflt (refine' item_sl (by k_asm) (by k_mem) (by assumption) (by assumption) (by omega) (by omega) ?_ (by first | with_unfolding_all rfl | fail)); intro x'_k t'_k; (try dsimp only))
  k_with "my subscriptTail Name" => ((fail_if_success (k_extra "off14")); k_here; (with_reducible show wpAny _ _ (subscriptTail _ _ (Value.ref _) (Value.int _ _)) _ _ _); k_dflt (refine' item_sl (by k_asm) (by k_mem) (by assumption) (by assumption) (by omega) (by omega) ?_ (by first | with_unfolding_all rfl | fail)); intro x'_k t'_k; (try dsimp only))
  k_with "my subscriptTail Subscript" => ((fail_if_success (k_extra "off14")); k_here; (with_reducible show wpAny _ _ (subscriptTail _ _ (Value.ref _) (Value.int _ _)) _ _ _); k_dflt (refine' item_sl (by k_asm) (by k_mem) (by assumption) (by assumption) (by omega) (by omega) ?_ (by first | with_unfolding_all rfl | fail)); intro x'_k t'_k; (try dsimp only))
  k_with "my binaryOp Mod int int" => ((fail_if_success (k_extra "off14")); k_here; (with_reducible refine mod_int' (by omega) ?_))
  refine wpAny_call ?_
  k_dflt k_enter
  k_steps
  all_goals (first | (refine' ret _ _ _ _ _ _ _ (Int.fmod_nonneg_of_pos _ hsz) (Int.fmod_lt_of_pos _ hsz) ?i0 ?fr ?nn; (case nn => assumption); (case fr => assumption); (case i0 => omega)) | (refine' ret 0 _ _ _ _ _ _ ?z1 hsz ?i0 ?fr ?nn; (case nn => assumption); (case fr => assumption); (case i0 => omega); (case z1 => omega)))))


end
section
theorem c_stk {t0 : Tok} (hd : dp + 20 < recursionLimit) (hu : un + 200 < cLine) (N : News h₀ L s.heap (news))
    (ret : ∀ S dS TL k1 k2 n' h' tk', Fr h₀ L h' m → News h₀ L h' ((TL, listOf #[] n') :: (S, instObj 396 dS) :: (dS, stD w k1 k2 t0 TL) :: news) → (∀ q ∈ news, q.1 < dS) → dS < S → S < TL → Q (.ref S) { s with heap := h', toks := tk' })
    : wpAny (model Pg w) (ktrTop dp un gd cn cs L a ccd cl outer) (call (.ref 396) [.int 20 t0]) Q E s := wit (by exact Wit.get : Wit (by
  k_with "off14" => skip
  k_steps
  all_goals exact ret _ _ _ _ _ _ _ _ (by assumption) (by assumption) (by assumption) (by assumption) (by first | assumption | exact And.left (by assumption))))

theorem c_mach {S LM DD : Addr} (hd : dp + 20 < recursionLimit) (hu : un + 200 < cLine) (N : News h₀ L s.heap (news))
    (ret : ∀ MA dM MD nM h' tk', getL (Str.ofString "operands") MD = some (some (.ref S)) → Fr h₀ L h' m → News h₀ L h' ((MA, instObj 791 dM) :: (dM, dictOf MD nM) :: news) → (∀ q ∈ news, q.1 < dM) → dM < MA → Q (.ref MA) { s with heap := h', toks := tk' })
    : wpAny (model Pg w) (ktrTop dp un gd cn cs L a ccd cl outer) (call (.ref 791) [.none, .ref S, .none, .none, .ref LM, .ref DD]) Q E s := wit (by exact Wit.get : Wit (by
  k_with "my my_sim" => ((fail_if_success (k_extra "off15")); first | exact SimE.none | exact SimE.bool | exact SimE.int | exact SimE.list | (apply SimE.dict; (k_asm)) | (apply SimE.loc; (rfl); (rfl); (rfl); (rfl)) | (apply SimE.glo; (k_in); (k_asm); (k_is); (rfl); (rfl); (rfl)))
  k_with "my my_sets" => ((fail_if_success (k_extra "off15")); first | exact Sets.nil | (apply Sets.cons; (walk_at "my_sim"); (with_unfolding_all rfl); (decide); (k_is); (walk_at "my_sets")))
  k_with "my execs cons" => ((fail_if_success (k_extra "off15")); k_here; k_dflt (refine' sets_go (by k_asm) (by k_asm) (by first | exact (show Ops _ _ 2 from ⟨rfl, rfl, Nat.le_of_ble_eq_true rfl⟩) | fail) (by first | rfl | fail) (by first | rfl | fail) (by first | rfl | fail) (by k_in) (by k_is) (by k_is) (by k_is) (by first | exact Nat.le_of_ble_eq_true rfl | fail) (by k_ne) (by first | exact ltAll (by assumption) | exact ltAll' (by assumption) | fail) (by walk_at "my_sets") ?_); k_whole; intro h'_k t'_k es'_k n'_k O'_k F'_k N'_k; (try dsimp only))
  k_with "my k_enter" => ((fail_if_success (k_extra "off15")); refine' code_defL (by k_asm) (by k_asm) (by k_asm) (by k_asm) (by k_asm) (by first | exact rfl | fail) (by first | exact rfl | fail) (by first | exact rfl | assumption | fail) (by k_is) (by k_is) (by first | k_room | fail) (by first | exact BindsTo.of_eq (binds := [(Str.ofString "self", _), (Str.ofString "memory", _), (Str.ofString "operands", _), (Str.ofString "dicts", _), (Str.ofString "scanner", _), (Str.ofString "limits", _), (Str.ofString "disk", _)]) rfl | fail) (by first | exact locs rfl | fail) ?_ (by first | exact rfl | fail) (by first | exact rfl | fail) (by first | exact rfl | fail) (by first | decide | fail); k_whole; (try dsimp -zeta only); intro g'_k L'_k h'_k tk'_k FG'_k F'_k N'_k B'_k X'_k T'_k e'_k A'_k; (try k_lift B'_k); (try k_fold))
  k_steps
  all_goals (rename Ops _ _ _ => hO9; exact ret _ _ _ _ _ _ hO9.1 (by assumption) (News.sub (by assumption) (by walk_at "my_subP")) (by assumption) (by assumption))))

omit B F X T hk in
theorem lim_binds {x : Addr} (X : (Kp w.params).In s.heap) : BindsTo s (fD (nth (inC (nth Bd 83)) 0) (Str.ofString "Limits.__init__") (.ref 803) .none .none (.str (Str.ofString "postcore.memory") 1170) none (.ref 809) .none) ⟨[.ref x], []⟩ [(Str.ofString "self", .ref x), (Str.ofString "operands", .int 500 1188), (Str.ofString "dicts", .int 20 1189), (Str.ofString "frames", .int 250 1190), (Str.ofString "saves", .int 15 1191), (Str.ofString "gstates", .int 31 1192), (Str.ofString "text", .int 65535 1193), (Str.ofString "row", .int 65535 1194), (Str.ofString "entries", .int 65535 1195), (Str.ofString "word", .int 127 1196), (Str.ofString "path", .int 1500 1197), (Str.ofString "dash", .int 11 1198), (Str.ofString "files", .int 15 1199), (Str.ofString "system", .int 600 1200), (Str.ofString "vm", .int 16777216 1174)] :=
  binds_K (T := 803) X rfl (by k_is) rfl rfl (by kernel_rfl)
theorem c_lim  (hd : dp + 20 < recursionLimit) (hu : un + 200 < cLine) (N : News h₀ L s.heap (news))
    (ret : ∀ LM h' tk', Fr h₀ L h' m → News h₀ L h' news → Q (.ref LM) { s with heap := h', toks := tk' })
    : wpAny (model Pg w) (ktrTop dp un gd cn cs L a ccd cl outer) (call (.ref 813) []) Q E s := wit (by exact Wit.get : Wit (by
  k_with "my k_enter" => ((fail_if_success (k_extra "off15")); refine' code_defL (by k_asm) (by k_asm) (by k_asm) (by k_asm) (by k_asm) (by first | exact rfl | fail) (by first | exact rfl | fail) (by first | exact rfl | assumption | fail) (by k_is) (by k_is) (by first | k_room | fail) (by first | exact lim_binds (by k_in) | fail) (by first | exact locs rfl | fail) ?_ (by first | exact rfl | fail) (by first | exact rfl | fail) (by first | exact rfl | fail) (by first | decide | fail); k_whole; (try dsimp -zeta only); intro g'_k L'_k h'_k tk'_k FG'_k F'_k N'_k B'_k X'_k T'_k e'_k A'_k; (try k_lift B'_k); (try k_fold))
  k_steps
  all_goals exact ret _ _ _ (by assumption) (News.sub (by assumption) (by walk_at "k_sub"))))


end
section
theorem c_draw1 {TP SL : Addr} {i sz : Int} {ti t0 : Tok} {n k : Nat} {vs : List Value} {ns : List Int} {x : Addr × Obj} (hd : dp + 5 < recursionLimit) (hu : un + 50 < cLine) (N : News h₀ L s.heap (x :: (TP, listOf #[.ref SL, .int i ti] n) :: news))
    (hS : (SL, listOf vs.toArray k) ∈ news)
    (hi : IntsAre vs ns)
    (h0 : 0 ≤ i)
    (hlen : vs.length ≤ 60)
    (hsz : 0 < sz)
    (hsz2 : sz < 10000000000000)
    (hT : ∀ q ∈ news, q.1 ≠ TP)
    (hx : x.1 ≠ TP)
    (ret : ∀ v t' i' ti' n' h' tk', 0 ≤ v → v < sz → 0 ≤ i' → Fr h₀ L h' m → News h₀ L h' (x :: (TP, listOf #[.ref SL, .int i' ti'] n') :: news) → Q (.int v t') { s with heap := h', toks := tk' })
    : wpAny (model Pg w) (ktrTop dp un gd cn cs L a ccd cl outer) (call (.ref 833) [.ref TP, .int sz t0]) Q E s := by
  k_with "off15" => skip
  k_with "my binaryOp Pow int int" => ((fail_if_success (k_extra "off16")); k_here; first | (with_reducible refine pw_10_21 ?_) | (with_reducible refine pw_10_6 ?_) | (with_reducible refine pw_2_31 ?_) | (with_reducible refine pw_2_32 ?_) | (with_reducible refine pw_2_40 ?_) | (with_reducible refine pw_10_12 ?_) | (with_reducible refine pw_2_39 ?_))
  exact c_draw (news := x :: news) B F X T hk hd hu (swp N) (.tail _ hS) hi h0 hlen hsz hsz2 (List.forall_mem_cons.mpr ⟨hx, hT⟩) (fun v t' i' ti' n' h' tk' a b c d e => ret v t' i' ti' n' h' tk' a b c d (swp e))

theorem c_reals  (hd : dp + 5 < recursionLimit) (hu : un + 50 < cLine) (N : News h₀ L s.heap (news))
    (ret : ∀ D l n' h' tk', AllI Tn l → l.length = 15 → Fr h₀ L h' m → News h₀ L h' ((D, ({ cls := .type "tuple", data := .seq l.toArray n' } : Obj)) :: news) → (∀ q ∈ news, q.1 < D) → Q (.ref D) { s with heap := h', toks := tk' })
    : wpAny (model Pg w) (ktrTop dp un gd cn cs L a ccd cl outer) (call (.ref 826) []) Q E s := wit (by exact Wit.get : Wit (by
  refine wpAny_call ?_
  k_dflt k_enter
  k_steps
  all_goals (refine' ret _ _ _ _ _ ?z9a ?z9b ?z9f ?z9n ?z9l; (case z9n => assumption); (case z9f => assumption); (case z9l => assumption); (case z9b => exact rfl); (case z9a => exact ⟨⟨_, _, rfl, by constructor <;> decide⟩, ⟨_, _, rfl, by constructor <;> decide⟩, ⟨_, _, rfl, by constructor <;> decide⟩, ⟨_, _, rfl, by constructor <;> decide⟩, ⟨_, _, rfl, by constructor <;> decide⟩, ⟨_, _, rfl, by constructor <;> decide⟩, ⟨_, _, rfl, by constructor <;> decide⟩, ⟨_, _, rfl, by constructor <;> decide⟩, ⟨_, _, rfl, by constructor <;> decide⟩, ⟨_, _, rfl, by constructor <;> decide⟩, ⟨_, _, rfl, by constructor <;> decide⟩, ⟨_, _, rfl, by constructor <;> decide⟩, ⟨_, _, rfl, by constructor <;> decide⟩, ⟨_, _, rfl, by constructor <;> decide⟩, ⟨_, _, rfl, by constructor <;> decide⟩, trivial⟩))))




theorem c_operand {TP SL : Addr} {i : Int} {ti : Tok} {n k : Nat} {vs : List Value} {ns : List Int} (hd : dp + 20 < recursionLimit) (hu : un + 200 < cLine) (N : News h₀ L s.heap ((TP, listOf #[.ref SL, .int i ti] n) :: news))
    (hS : (SL, listOf vs.toArray k) ∈ news)
    (hi : IntsAre vs ns)
    (h0 : 0 ≤ i)
    (hlen : vs.length ≤ 60)
    (hT : ∀ q ∈ news, q.1 ≠ TP)
    (ret : ∀ D o t1 t2 i' ti' n' h' tk', OpOk o → 0 ≤ i' → (@LT.lt Nat _ TP D ∧ AllLt D news) → Fr h₀ L h' m → News h₀ L h' ((D, tupO o t1 t2) :: (TP, listOf #[.ref SL, .int i' ti'] n') :: news) → Q (.ref D) { s with heap := h', toks := tk' })
    : wpAny (model Pg w) (ktrTop dp un gd cn cs L a ccd cl outer) (call (.ref 840) [.ref TP]) Q E s := wit (by exact Wit.get : Wit (by
  k_with "my call ref" => ((fail_if_success (k_extra "off16")); k_here; (with_reducible show wpAny _ _ (call (Value.ref 833) [Value.ref _, Value.int _ _]) _ _ _); k_dflt (refine' c_draw1 (by k_asm) (by k_asm) (by k_asm) (by k_asm) (by first | exact rfl | assumption | fail) (by k_room) (by k_extra "units") (by k_asm) (by assumption) (by assumption) (by first | assumption | omega | fail) (by assumption) (by omega) (by omega) (by assumption) (by first | assumption | exact Nat.ne_of_gt (by assumption) | exact neN (by omega) | fail) ?_); intro v'_k t'_k i'_k ti'_k n'_k h'_k tk'_k b1'_k b2'_k b3'_k F'_k N'_k; (try dsimp only); (try k_sweep))
  k_with "my call ref" => ((fail_if_success (k_extra "off16")); k_here; (with_reducible show wpAny _ _ (call (Value.ref 833) [Value.ref _, Value.int _ _]) _ _ _); k_dflt (refine' c_draw (by k_asm) (by k_asm) (by k_asm) (by k_asm) (by first | exact rfl | assumption | fail) (by k_room) (by k_extra "units") (by k_asm) (by assumption) (by assumption) (by first | assumption | omega | fail) (by assumption) (by omega) (by omega) (by assumption) ?_); intro v'_k t'_k i'_k ti'_k n'_k h'_k tk'_k b1'_k b2'_k b3'_k F'_k N'_k; (try dsimp only); (try k_sweep))
  k_with "my call ref" => ((fail_if_success (k_extra "off16")); k_here; (with_reducible show wpAny _ _ (call (Value.ref 826) _) _ _ _); k_dflt (refine' c_reals (by k_asm) (by k_asm) (by k_asm) (by k_asm) (by first | exact rfl | assumption | fail) (by k_room) (by k_extra "units") (by k_asm)  ?_); intro D'_k l'_k n'_k h'_k tk'_k ha'_k hl'_k F'_k N'_k l1'_k; (try k_lt l1'_k); (try dsimp only); (try k_sweep))
  k_with "my subscriptTail" => ((fail_if_success (k_extra "off16")); k_here; (with_reducible show wpAny _ _ (subscriptTail _ _ (Value.ref 819) (Value.int _ _)) _ _ _); k_dflt (refine' item_any (P := fitsI) (l := lawInts) (by first | exact kun_topT (by k_asm) (by k_asm) (by k_is) | fail) lawInts_ok (by assumption) (by first | (show _ < (12 : Int)); omega | fail) (by decide) ?_ (by first | with_unfolding_all rfl | fail)); intro x'_k u'_k p'_k; (try dsimp only))
  k_with "my subscriptTail Name" => ((fail_if_success (k_extra "off16")); k_here; (with_reducible show wpAny _ _ (subscriptTail _ _ (Value.ref 819) (Value.int _ _)) _ _ _); k_dflt (refine' item_any (P := fitsI) (l := lawInts) (by first | exact kun_topT (by k_asm) (by k_asm) (by k_is) | fail) lawInts_ok (by assumption) (by first | (show _ < (12 : Int)); omega | fail) (by decide) ?_ (by first | with_unfolding_all rfl | fail)); intro x'_k u'_k p'_k; (try dsimp only))
  k_with "my subscriptTail Subscript" => ((fail_if_success (k_extra "off16")); k_here; (with_reducible show wpAny _ _ (subscriptTail _ _ (Value.ref 819) (Value.int _ _)) _ _ _); k_dflt (refine' item_any (P := fitsI) (l := lawInts) (by first | exact kun_topT (by k_asm) (by k_asm) (by k_is) | fail) lawInts_ok (by assumption) (by first | (show _ < (12 : Int)); omega | fail) (by decide) ?_ (by first | with_unfolding_all rfl | fail)); intro x'_k u'_k p'_k; (try dsimp only))
  k_with "my subscriptTail" => ((fail_if_success (k_extra "off16")); k_here; (with_reducible show wpAny _ _ (subscriptTail _ _ (Value.ref _) (Value.int _ _)) _ _ _); k_dflt (refine' item_any (P := Tn) (by first | exact News.isTup (by k_asm) (by k_mem) | fail) (by assumption) (by assumption) (by omega) (by omega) ?_ (by first | with_unfolding_all rfl | fail)); intro x'_k u'_k p'_k; (try dsimp only))
  k_with "my subscriptTail Name" => ((fail_if_success (k_extra "off16")); k_here; (with_reducible show wpAny _ _ (subscriptTail _ _ (Value.ref _) (Value.int _ _)) _ _ _); k_dflt (refine' item_any (P := Tn) (by first | exact News.isTup (by k_asm) (by k_mem) | fail) (by assumption) (by assumption) (by omega) (by omega) ?_ (by first | with_unfolding_all rfl | fail)); intro x'_k u'_k p'_k; (try dsimp only))
  k_with "my subscriptTail Subscript" => ((fail_if_success (k_extra "off16")); k_here; (with_reducible show wpAny _ _ (subscriptTail _ _ (Value.ref _) (Value.int _ _)) _ _ _); k_dflt (refine' item_any (P := Tn) (by first | exact News.isTup (by k_asm) (by k_mem) | fail) (by assumption) (by assumption) (by omega) (by omega) ?_ (by first | with_unfolding_all rfl | fail)); intro x'_k u'_k p'_k; (try dsimp only))
  k_with "my k_enter" => ((fail_if_success (k_extra "off16")); refine' code_defL (by k_asm) (by k_asm) (by k_asm) (by k_asm) (by k_asm) (by first | exact rfl | fail) (by first | exact rfl | fail) (by first | exact rfl | assumption | fail) (by k_is) (by k_is) (by first | k_room | fail) (by first | exact BindsTo.of_eq (binds := [(Str.ofString "tape", _)]) rfl | fail) (by first | exact locs rfl | fail) ?_ (by first | exact rfl | fail) (by first | exact rfl | fail) (by first | exact rfl | fail) (by first | decide | fail); k_whole; (try dsimp -zeta only); intro g'_k L'_k h'_k tk'_k FG'_k F'_k N'_k B'_k X'_k T'_k e'_k A'_k; (try k_lift B'_k); (try k_fold))
  refine wpAny_call ?_
  k_dflt k_enter
  k_steps
  all_goals (first | (refine' ret _ (.int _) _ _ _ _ _ _ _ ?ok ?i0 ?ne ?fr ?nn; (case nn => exact News.sub (by assumption) (by walk_at "my_subP")); (case fr => assumption); (case ne => first | assumption | exact And.right (by assumption)); (case i0 => assumption); (case ok => first | assumption | exact trivial | (show fitsI _; constructor <;> omega) | (show Tn _; constructor <;> omega))) | (refine' ret _ (.real _) _ _ _ _ _ _ _ ?ok ?i0 ?ne ?fr ?nn; (case nn => exact News.sub (by assumption) (by walk_at "my_subP")); (case fr => assumption); (case ne => first | assumption | exact And.right (by assumption)); (case i0 => assumption); (case ok => first | assumption | exact trivial | (show fitsI _; constructor <;> omega) | (show Tn _; constructor <;> omega))) | (refine' ret _ (.bool _) _ 0 _ _ _ _ _ ?ok ?i0 ?ne ?fr ?nn; (case nn => exact News.sub (by assumption) (by walk_at "my_subP")); (case fr => assumption); (case ne => first | assumption | exact And.right (by assumption)); (case i0 => assumption); (case ok => first | assumption | exact trivial | (show fitsI _; constructor <;> omega) | (show Tn _; constructor <;> omega))))))

section
theorem c_make {o : Op} {t : Tok} (hd : dp + 10 < recursionLimit) (hu : un + 100 < cLine) (N : News h₀ L s.heap (news))
    (ret : ∀ z dz k1 k2 k3 k4 t1 t2 h' tk', Fr h₀ L h' m → News h₀ L h' ((z, instObj 198 dz) :: (dz, thD w k1 k2 k3 k4 t1 t2 o.kd (o.val t)) :: news) → (∀ q ∈ news, q.1 < dz) → dz < z → Q (.ref z) { s with heap := h', toks := tk' })
    : wpAny (model Pg w) (ktrTop dp un gd cn cs L a ccd cl outer) (call (.ref (Op.fn o)) [o.val t]) Q E s := by
  cases o
  · exact c_integer B F X T hk hd hu N rfl ret
  · exact c_real B F X T hk hd hu N rfl ret
  · exact c_boolean B F X T hk hd hu N rfl ret

theorem c_puG {S dS TL z : Addr} {xs : Array Value} {k1 k2 t : Tok} {n : Nat} {led : Led} (hd : dp + 10 < recursionLimit) (hu : un + 100 < cLine) (N : News h₀ L s.heap (led))
    (hS0 : (S, instObj 396 dS) ∈ led)
    (hD0 : (dS, stD w k1 k2 t TL) ∈ led)
    (hL : Wo (TL, listOf xs n) led news)
    (hT : ∀ q ∈ news, q.1 ≠ TL)
    (hz : xs.size < 20)
    (ret : ∀ n' h' tk', Fr h₀ L h' m → News h₀ L h' ((TL, listOf (xs.push (.ref z)) n') :: news) → Q .none { s with heap := h', toks := tk' })
    : wpAny (model Pg w) (ktrTop dp un gd cn cs L a ccd cl outer) (call (.ref 323) [.ref S, .ref z]) Q E s := wit (by exact Wit.get : Wit (by
  k_with "my compareOp GtE int int" => ((fail_if_success (k_extra "off17")); k_here; k_dflt (refine ge20 (by assumption) ?_))
  have N := hL.news N
  have hS := hL.oth hS0 cI
  have hD := hL.oth hD0 cD
  clear hL hS0 hD0
  refine wpAny_call ?_
  k_dflt k_enter
  k_steps
  all_goals (exact ret _ _ _ (by assumption) (News.sub (by assumption) (by walk_at "k_sub")))))


end
section
omit B F X T hk in
theorem OpDoes.mono {w : World} {p : Program} {lo : List Str} {mean : ExcName → Option Value} {mg mb : Str → Option Value} {ad MA TL : Addr} {xs : Array Value} {news : Led} {RP RP' : Led → Prop} {EP EP' : Array UInt8 → Prop} (O : OpDoes w p lo mean mg mb ad MA TL xs news RP EP) (hR : ∀ l, RP l → RP' l) (hE : ∀ b, EP b → EP' b) : OpDoes w p lo mean mg mb ad MA TL xs news RP' EP' :=
  fun _ _ _ _ _ _ _ _ _ _ _ _ _ _ _ _ _ n B F X T hk hd hu N ret exc => O _ _ _ _ _ _ _ _ _ _ _ _ _ _ _ _ _ n B F X T hk hd hu N (fun l h tk hr => ret l h tk (hR l hr)) (fun b hb => exc b (hE b hb))
omit B F X T hk in
theorem does_op {w : World} {p : Program} {lo : List Str} {mean : ExcName → Option Value} {mg mb : Str → Option Value} {c : Wd} {MA TL : Addr} {vs : List Value} {os : List Op} {r : Res} {news : Led} (D : Does c os r) (hth : Things w news vs os) (hM : MachAt w news MA TL) (hT : ∀ q ∈ news, q.1 ≠ TL) : OpDoes w p lo mean mg mb c.ad MA TL vs.toArray news (RPg w TL news os r) (EPr r) := by
  k_with "off17" => skip
  cases D with
  | u0 hc => cases hth; exact (ol1 hM hT hc).mono (fun _ h => h.elim) (fun b hb => by rw [hb]; rfl)
  | b1 hc =>
    rcases hth with _ | ⟨h1, hs⟩
    cases hs
    exact (ol2 hM hT hc).mono (fun _ h => h.elim) (fun b hb => by rw [hb]; rfl)
  | u3 hc hk1 =>
    rcases hth with _ | ⟨h1, hs⟩
    rcases hs with _ | ⟨h2, hs⟩
    rcases hs with _ | ⟨h3, hs⟩
    cases hs
    exact (od1 hM h3 hT (okTn hk1) hc).mono (fun _ => RPr.gen h1 h2) (fun _ h => h)
  | b4 hc hk1 hk2 =>
    rcases hth with _ | ⟨h1, hs⟩
    rcases hs with _ | ⟨h2, hs⟩
    rcases hs with _ | ⟨h3, hs⟩
    rcases hs with _ | ⟨h4, hs⟩
    cases hs
    exact (od2 hM h3 h4 hT (okTn hk1) (okTn hk2) hc).mono (fun _ => RPr.gen h1 h2) (fun _ h => h)
theorem w_gen {c : Wd} {MA TL : Addr} {vs : List Value} {os : List Op} {r : Res} {n : Nat} {tw : Tok} (hd : dp + 80 < recursionLimit) (hu : un + 800 < cLine) (N : News h₀ L s.heap ((TL, listOf vs.toArray n) :: news))
    (D : Does c os r)
    (hth : Things w news vs os)
    (hM : MachAt w news MA TL)
    (hT : ∀ q ∈ news, q.1 ≠ TL)
    (ret : ∀ p q rest o z1 z2 ta tb z dz k1 k2 k3 k4 t1 t2 u n' h' tk', os = p :: q :: rest → r = .ok o → ThingAt w news z1 p.kd (p.val ta) → ThingAt w news z2 q.kd (q.val tb) → Fr h₀ L h' m → News h₀ L h' ((TL, listOf #[.ref z1, .ref z2, .ref z] n') :: (z, instObj 198 dz) :: (dz, thD w k1 k2 k3 k4 t1 t2 o.kd (o.val u)) :: news) → (∀ q ∈ news, q.1 ≠ TL) → Q .none { s with heap := h', toks := tk' })
    (exc0 : ∀ b, r = .bad b → Exc w base h₀ L m (envX cn cs L a ccd cl :: outer) s E b (news))
    : wpAny (model Pg w) (ktrTop dp un gd cn cs L a ccd cl outer) (call (.ref 885) [.str c.str tw, .ref MA]) Q E s := by
  refine c_called B F X T hk (by omega) (by omega) N (does_op D hth hM hT) ?_ exc0
  rintro led' h' tk' ⟨p, q, rest, o, z1, z2, ta, tb, z, dz, k1, k2, k3, k4, t1, t2, u, n', e1, e2, h1, h2⟩ F' N'
  exact ret p q rest o z1 z2 ta tb z dz k1 k2 k3 k4 t1 t2 u n' h' tk' e1 e2 h1 h2 F' N' hT







omit B F X T hk in
theorem hd_gen {c : Wd} {SO : Addr} {items : List It} {r : Res} {nS : Nat} {tw : Tok} {led : Led} (B : Below A₀ base [] h₀) (F : Fr h₀ L s.heap m) (X : (Kp w.params).In h₀) (T : Top p lo mean mg mb h₀) (hk : cs.kind = .function) (XB : (Kp w.params).In base) (TB : Top p lo mean mg mb base) (hd : dp + 100 < recursionLimit) (hu : un + 1000 < cLine) (N : News h₀ L s.heap led)
    (hSO : (SO, listOf (items.map It.val).toArray nS) ∈ led)
    (hit : ∀ i ∈ items, (i.a, tupO i.o i.t1 i.t2) ∈ led)
    (hlen : items.length ≤ 4)
    (D : Does c (items.map It.o) r)
    (ret2 : ∀ b t' h' tk', r = .bad b → Fr h₀ L h' m → News h₀ L h' led → Q (.str (txt b) t') { s with heap := h', toks := tk' })
    (ret : ∀ p q rest o R Q1 Q2 Q3 ta tb tc td te tf n' h' tk', items.map It.o = p :: q :: rest → r = .ok o → Fr h₀ L h' m → News h₀ L h' ((R, listOf #[.ref Q1, .ref Q2, .ref Q3] n') :: (Q1, tupO p ta tb) :: (Q2, tupO q tc td) :: (Q3, tupO o te tf) :: led) → Q (.ref R) { s with heap := h', toks := tk' })
    : wpAny (model Pg w) (ktrTop dp un gd cn cs L a ccd cl []) (call (.ref 890) [.str c.str tw, .ref SO]) Q E s := wit (by exact Wit.get : Wit (by
  k_with "my call ref" => ((fail_if_success (k_extra "off18")); k_here; (with_reducible show wpAny _ _ (call (Value.ref 396) [Value.int _ _]) _ _ _); k_dflt (refine' c_stk (by k_asm) (by k_asm) (by k_asm) (by k_asm) (by first | exact rfl | assumption | fail) (by k_room) (by k_extra "units") (by k_asm)  ?_); intro S'_k dS'_k TL'_k k1'_k k2'_k n'_k h'_k tk'_k F'_k N'_k l1_k l2_k l3_k; (try k_lt l1_k); (try k_lt2 l2_k); (try k_lt2 l3_k); (try dsimp only); (try k_sweep))
  k_with "my call ref" => ((fail_if_success (k_extra "off18")); k_here; (with_reducible show wpAny _ _ (call (Value.ref 813) _) _ _ _); k_dflt (refine' c_lim (by k_asm) (by k_asm) (by k_asm) (by k_asm) (by first | exact rfl | assumption | fail) (by k_room) (by k_extra "units") (by k_asm)  ?_); intro LM'_k h'_k tk'_k F'_k N'_k; (try dsimp only); (try k_sweep))
  k_with "my call ref" => ((fail_if_success (k_extra "off18")); k_here; (with_reducible show wpAny _ _ (call (Value.ref 791) _) _ _ _); k_dflt (refine' c_mach (by k_asm) (by k_asm) (by k_asm) (by k_asm) (by first | exact rfl | assumption | fail) (by k_room) (by k_extra "units") (by k_asm)  ?_); intro MA'_k dM'_k MD'_k nM'_k h'_k tk'_k hMO'_k F'_k N'_k l1_k l2_k; (try k_lt l1_k); (try k_lt2 l2_k); (try dsimp only); (try k_sweep))
  k_with "my exec For Tuple Name cons nil" => ((fail_if_success (k_extra "off18")); k_here; (rename Fr _ _ _ _ => lF'_k); (with_unfolding_all refine' For_turns lF'_k ?_; k_whole))
  k_with "my getItem ref str" => ((fail_if_success (k_extra "off18")); k_here; (with_reducible show wpAny _ _ (getItem (Value.ref _) (Value.str (Op.kd _) _)) _ _ _); k_dflt (refine kdt_getItem (knd := PySem.strKind _ _) (by k_asm) (by k_mem) (by k_asm) (strKind_is _ _ _ _) kd_val ?_))
  k_with "my my_wo" => ((fail_if_success (k_extra "off18")); first | exact Wo.head | (apply Wo.tail; walk_at "my_wo"))
  k_with "my k_all" => ((fail_if_success (k_extra "off18")); first | exact List.forall_mem_nil _ | (refine' List.forall_mem_cons.mpr ⟨(by k_ne), (by k_all)⟩))
  k_with "my call ref" => ((fail_if_success (k_extra "off18")); k_here; (with_reducible show wpAny _ _ (call (Value.ref (Op.fn _)) _) _ _ _); k_dflt (refine' c_make (by k_asm) (by k_asm) (by k_asm) (by k_asm) (by first | exact rfl | assumption | fail) (by k_room) (by k_extra "units") (by k_asm)  ?_); intro z'_k dz'_k k1'_k k2'_k k3'_k k4'_k t1'_k t2'_k h'_k tk'_k F'_k N'_k l1_k l2_k; (try k_lt l1_k); (try k_lt2 l2_k); (try dsimp only); (try k_sweep))
  k_with "my callWith ref" => ((fail_if_success (k_extra "off18")); k_here; (with_reducible show wpAny _ _ (callWith _ (Value.ref (Op.fn _)) _ _ _) _ _ _); k_dflt (refine' callWith_K (by k_asm) (by first | exact kfn _ _ | fail) ?_; k_whole))
  k_with "my k_all" => ((fail_if_success (k_extra "off18")); first | assumption | exact tailNe (by assumption) (by assumption) (by assumption) | exact List.forall_mem_nil _ | (apply neC; (k_ne); (k_all)))
  k_with "my call ref" => ((fail_if_success (k_extra "off18")); k_here; (with_reducible show wpAny _ _ (call (Value.ref 323) _) _ _ _); k_dflt (refine' c_puG (by k_asm) (by k_asm) (by k_asm) (by k_asm) (by first | exact rfl | assumption | fail) (by k_room) (by k_extra "units") (by k_asm) (by k_mem) (by k_mem) (by walk_at "my_wo") (by k_all) (by assumption) ?_); intro n'_k h'_k tk'_k F'_k N'_k; (try dsimp only); (try k_sweep))
  k_with "my noteFrame ref" => ((fail_if_success (k_extra "off18")); k_here; k_dflt (refine' caught (by assumption) (by assumption) (by assumption) (by assumption) (by assumption) (by assumption) (by assumption) (by first | exact KtsTurn.refl | fail) (by k_is) ?_); intro h'_k g'_k tk'_k vs'_k hv2'_k T'_k F'_k N'_k K'_k X'_k P'_k D'_k; (try k_lift K'_k); (try k_sweep))
  k_with "my getAttr ref" => ((fail_if_success (k_extra "off18")); k_here; (with_reducible show wpAny _ _ (getAttr (Value.ref _) (PySem.Str.ofString "told") _) _ _ _); k_dflt (refine' told_getN (by k_asm) (by k_asm) (by k_asm) (by k_mem) (by k_mem) (by first | exact rfl | fail) ?_))
  k_with "my eval ListComp" => ((fail_if_success (k_extra "off18")); k_here; (with_reducible show wpAny _ (Around.mark _ _) (eval _ _) _ _ _); k_dflt (refine ListComp_B (by k_asm) (by with_unfolding_all rfl) (by decide) (by rfl) (by decide) (by rfl) ?_))
  k_with "my BSrc" => ((fail_if_success (k_extra "off18")); k_here; k_dflt (refine' BSrc.text (by first | exact rfl | fail) (by k_asm) (by k_asm) (by k_mem) (by assumption) (by first | exact Nm.sz (by assumption) | fail) ?_ ?_; (intro k'_k t'_k I'_k oI'_k C'_k oC'_k D'_k m2'_k ys'_k h'_k tk'_k E'_k b1'_k b2'_k hC'_k hx'_k F'_k N'_k off'_k ne'_k; (try dsimp only))); rotate_left; (intro ys'_k D'_k h'_k tk'_k hc'_k F'_k N'_k; (try dsimp only)); rotate_left)
  k_with "my call builtin:str.join" => ((fail_if_success (k_extra "off18")); k_here; k_dflt (refine join_told (by assumption) (by k_asm) (by assumption) ?_); intro t'_k k'_k; (try dsimp only))
  k_with "my CompEnd" => ((fail_if_success (k_extra "off18")); k_here; k_dflt (refine' CompEnd_new (by k_asm) (by k_asm) (by first | assumption | (simp only [LCg.Off3, and_true]; assumption) | fail) (by assumption) (by first | lcg_src | fail) ?_))
  k_with "my CompEnd" => ((fail_if_success (k_extra "off18")); k_here; (with_reducible show LCg.CompEnd _ _ _ _ _ _ _ _ _ _ _ (fun y news' => KCtEl _ _ y news') _ _); k_dflt (refine LCg.CompEnd.intro (by k_asm) (by k_asm) _ (fun p hp => hp) (by assumption) (by k_mem) ⟨rfl, _, rfl⟩))
  k_with "my LeaveS0" => ((fail_if_success (k_extra "off18")); k_dflt (refine' leaveS0_ (by k_asm) (by k_asm) (by first | assumption | exact KtsTurn.refl | fail) ?_; k_whole); intro kF_k kN_k kK_k; (try dsimp only))
  k_with "my pyIter ref" => ((fail_if_success (k_extra "off18")); k_here; (with_reducible show wpAny _ _ (pyIter _) (fun it s₂ => TurnsAt _ _ _ _ _ _ _ _ _ it s₂) _ _); k_dflt (refine' heard_loop (by first | exact rfl | fail) (by k_asm) (by k_asm) (by assumption) (by assumption) (by assumption) (by first | exact ⟨_, _, _, _, _, _, _, _, (by k_mem), (by k_mem), (by assumption), (by k_mem), (by k_mem)⟩ | fail) (by walk_at "my_wo") (by walk_at "k_sub") (by k_all) ?tu ?dn); rotate_left; (intro a9_k b9_k vs9_k n9_k nx9_k h9_k tk9_k M9_k Th9_k Sb9_k T9_k F9_k N9_k; (have M8_k := M9_k); k_dflt (obtain ⟨dM9_k, MD9_k, nM9_k, S9_k, dS9_k, ka9_k, kb9_k, kc9_k, mA9_k, mD9_k, mO9_k, mS9_k, mE9_k⟩ := M8_k); (try dsimp only)); rotate_left; (intro i9_k os9_k I9_k it9_k a9_k b9_k vs9_k n9_k nx9_k h9_k tk9_k mi9_k sz9_k M9_k Th9_k Sb9_k T9_k In9_k IT9_k cl9_k F9_k N9_k; (have M8_k := M9_k); k_dflt (obtain ⟨dM9_k, MD9_k, nM9_k, S9_k, dS9_k, ka9_k, kb9_k, kc9_k, mA9_k, mD9_k, mO9_k, mS9_k, mE9_k⟩ := M8_k); (try dsimp only)))
  k_with "my UnrEndW" => ((fail_if_success (k_extra "off18")); k_here; k_dflt (refine' heard_end (by assumption) (by assumption) (by assumption) (by assumption) (by assumption) (by assumption) (by assumption) (by k_asm) (by k_asm) (by k_mem) (by k_mem) (by k_mem) (by k_mem) (by walk_at "k_sub")))
  k_with "my call ref" => ((fail_if_success (k_extra "off18")); k_here; (with_reducible show wpAny _ _ (call (Value.ref 885) _) _ _ _); k_dflt (refine' w_gen (by k_asm) (by k_asm) (by k_asm) (by k_asm) (by first | exact rfl | assumption | fail) (by k_room) (by k_extra "units") (by k_asm) (by assumption) (by assumption) (by assumption) (by assumption) ?_ ?_); intro p'_k q'_k rest'_k o'_k z1'_k z2'_k ta'_k tb'_k z'_k dz'_k k1'_k k2'_k k3'_k k4'_k t1'_k t2'_k u'_k n'_k h'_k tk'_k ho'_k hr'_k hx1'_k hx2'_k F'_k N'_k hT'_k; k_dflt (obtain ⟨dx9_k, ka9_k, kb9_k, kc9_k, kd9_k, ke9_k, kf9_k, ma9_k, mb9_k⟩ := hx1'_k); k_dflt (obtain ⟨dy9_k, la9_k, lb9_k, lc9_k, ld9_k, le9_k, lf9_k, na9_k, nb9_k⟩ := hx2'_k); (try dsimp only); (try k_sweep); rotate_left; intro b'_k hb'_k g'_k e'_k d'_k tk'_k t'_k h'_k tk2'_k FG'_k R'_k k'_k; (have hn9_k := Does.nm (by assumption) hb'_k); (try dsimp only); rotate_left)
  k_with "my my_nm" => ((fail_if_success (k_extra "off18")); exact Does.nm (by assumption) (by assumption))
  k_with "my execs cons" => ((fail_if_success (k_extra "off18")); k_here; (try k_gentoks); (with_reducible refine wpAny_execs_cons ?_); k_fold)
  refine wpAny_call ?_
  k_dflt (refine' enter_try ?k1 ?k2 ?k3 ?k4 ?k5 ?kA ?kF ?kK ?k6 ?k7 ?k8 ?k9 ?kB ?_ ?c2 ?c3 ?c4 ?c5; (case kA => exact rfl); (case kF => exact rfl); (case kK => first | exact rfl | assumption); (case k1 | k2 | k3 | k4 | k5 => k_asm); (case k6 => k_is); (case k7 => k_is); (case k8 => k_room); (case k9 => exact BindsTo.of_eq (binds := [(Str.ofString "word", _), (Str.ofString "some", _)]) rfl); (case c5 => decide); (case kB => exact locs rfl); (case c2 => exact rfl); (case c3 => exact rfl); (case c4 => exact rfl); k_whole; intro g' L' h' FG' F' N' B' X' T' D'; (try dsimp only); (try k_lift B'); (try k_fold))
  k_steps
  all_goals (rename News _ _ _ (List.cons _ _) => hN9; rename Sub _ _ => Sb9; first | exact ret2 _ _ _ _ (by assumption) (by assumption) (News.sub hN9 (fun q hq => by (have hs9 := Sb9 q hq); (repeat (first | exact hs9 | refine List.Mem.tail _ ?_)))) | exact ret _ _ _ _ _ _ _ _ _ _ _ _ _ _ _ _ _ (by assumption) (by assumption) (by assumption) (News.sub hN9 (List.forall_mem_cons.mpr ⟨by k_mem, List.forall_mem_cons.mpr ⟨by k_mem, List.forall_mem_cons.mpr ⟨by k_mem, List.forall_mem_cons.mpr ⟨by k_mem, (fun q hq => by (have hs9 := Sb9 q hq); (repeat (first | exact hs9 | refine List.Mem.tail _ ?_)))⟩⟩⟩⟩)))))

end
section
theorem c_drawW {led : Led} {TP SL : Addr} {i : Int} {ti : Tok} {n k : Nat} {vs : List Value} {ns : List Int} {sz : Int} {t0 : Tok} (hd : dp + 5 < recursionLimit) (hu : un + 50 < cLine) (N : News h₀ L s.heap (led))
    (hL : Wo (TP, listOf #[.ref SL, .int i ti] n) led news)
    (hS : (SL, listOf vs.toArray k) ∈ news)
    (hi : IntsAre vs ns)
    (h0 : 0 ≤ i)
    (hlen : vs.length ≤ 60)
    (hsz : 0 < sz)
    (hsz2 : sz < 10000000000000)
    (hT : ∀ q ∈ news, q.1 ≠ TP)
    (ret : ∀ v t' i' ti' n' h' tk', 0 ≤ v → v < sz → 0 ≤ i' → (∀ q ∈ news, q.1 ≠ TP) → Fr h₀ L h' m → News h₀ L h' ((TP, listOf #[.ref SL, .int i' ti'] n') :: news) → Q (.int v t') { s with heap := h', toks := tk' })
    : wpAny (model Pg w) (ktrTop dp un gd cn cs L a ccd cl outer) (call (.ref 833) [.ref TP, .int sz t0]) Q E s := by
  k_with "off18" => skip
  exact c_draw B F X T hk hd hu (hL.news N) hS hi h0 hlen hsz hsz2 hT (fun v t' i' ti' n' h' tk' a b c => ret v t' i' ti' n' h' tk' a b c hT)

theorem c_operandW {led : Led} {TP SL : Addr} {i : Int} {ti : Tok} {n k : Nat} {vs : List Value} {ns : List Int} (hd : dp + 20 < recursionLimit) (hu : un + 200 < cLine) (N : News h₀ L s.heap (led))
    (hL : Wo (TP, listOf #[.ref SL, .int i ti] n) led news)
    (hS : (SL, listOf vs.toArray k) ∈ news)
    (hi : IntsAre vs ns)
    (h0 : 0 ≤ i)
    (hlen : vs.length ≤ 60)
    (hT : ∀ q ∈ news, q.1 ≠ TP)
    (ret : ∀ D o t1 t2 i' ti' n' h' tk', OpOk o → 0 ≤ i' → (@LT.lt Nat _ TP D ∧ AllLt D news) → (∀ q ∈ news, q.1 ≠ TP) → Fr h₀ L h' m → News h₀ L h' ((D, tupO o t1 t2) :: (TP, listOf #[.ref SL, .int i' ti'] n') :: news) → Q (.ref D) { s with heap := h', toks := tk' })
    : wpAny (model Pg w) (ktrTop dp un gd cn cs L a ccd cl outer) (call (.ref 840) [.ref TP]) Q E s := by
  exact c_operand B F X T hk hd hu (hL.news N) hS hi h0 hlen hT (fun D o t1 t2 i' ti' n' h' tk' a b c => ret D o t1 t2 i' ti' n' h' tk' a b c hT)


end
section
omit B F X T hk in
theorem lh_0 {c : Wd} {tw : Tok} {SO : Addr} {n : Nat} {led : Led} (hc : c.un = true) (B : Below A₀ base [] h₀) (F : Fr h₀ L s.heap m) (X : (Kp w.params).In h₀) (T : Top p lo mean mg mb h₀) (hk : cs.kind = .function) (XB : (Kp w.params).In base) (TB : Top p lo mean mg mb base) (hd : dp + 100 < recursionLimit) (hu : un + 1000 < cLine) (N : News h₀ L s.heap led)
    (hSO : (SO, listOf #[] n) ∈ led)
    (ret : ∀ t' h' tk', Fr h₀ L h' m → News h₀ L h' led → Q (.str (txt stackunderflow) t') { s with heap := h', toks := tk' })
    : wpAny (model Pg w) (ktrTop dp un gd cn cs L a ccd cl []) (call (.ref 890) [.str c.str tw, .ref SO]) Q E s :=
  hd_gen (items := []) B F X T hk XB TB hd hu N hSO (all0) (Nat.le_of_ble_eq_true rfl) (.u0 hc) (fun b t' h' tk' hb => by cases hb; exact ret t' h' tk') (fun p q rest o R Q1 Q2 Q3 ta tb tc td te tf n' h' tk' ho hr' => nomatch ho)
omit B F X T hk in
theorem lh_1 {c : Wd} {tw : Tok} {A1 : Addr} {o1 : Op} {r1 r2 : Tok} {SO : Addr} {n : Nat} {led : Led} (hc : c.un = false) (B : Below A₀ base [] h₀) (F : Fr h₀ L s.heap m) (X : (Kp w.params).In h₀) (T : Top p lo mean mg mb h₀) (hk : cs.kind = .function) (XB : (Kp w.params).In base) (TB : Top p lo mean mg mb base) (hd : dp + 100 < recursionLimit) (hu : un + 1000 < cLine) (N : News h₀ L s.heap led)
    (hSO : (SO, listOf #[.ref A1] n) ∈ led)
    (ha1 : (A1, tupO o1 r1 r2) ∈ led)
    (ret : ∀ t' h' tk', Fr h₀ L h' m → News h₀ L h' led → Q (.str (txt stackunderflow) t') { s with heap := h', toks := tk' })
    : wpAny (model Pg w) (ktrTop dp un gd cn cs L a ccd cl []) (call (.ref 890) [.str c.str tw, .ref SO]) Q E s :=
  hd_gen (items := [⟨A1, o1, r1, r2⟩]) B F X T hk XB TB hd hu N hSO ((allC ha1 all0)) (Nat.le_of_ble_eq_true rfl) (.b1 hc) (fun b t' h' tk' hb => by cases hb; exact ret t' h' tk') (fun p q rest o R Q1 Q2 Q3 ta tb tc td te tf n' h' tk' ho hr' => nomatch ho)
omit B F X T hk in
theorem lh_3ok {c : Wd} {tw : Tok} {P1 P2 A1 : Addr} {o1 : Op} {x1 x2 x3 x4 r1 r2 : Tok} {oR : Op} {SO : Addr} {n : Nat} {led : Led} (hr : machF1 c o1 = .ok oR) (hc : c.un = true) (hk1 : OpOk o1) (B : Below A₀ base [] h₀) (F : Fr h₀ L s.heap m) (X : (Kp w.params).In h₀) (T : Top p lo mean mg mb h₀) (hk : cs.kind = .function) (XB : (Kp w.params).In base) (TB : Top p lo mean mg mb base) (hd : dp + 100 < recursionLimit) (hu : un + 1000 < cLine) (N : News h₀ L s.heap led)
    (hSO : (SO, listOf #[.ref P1, .ref P2, .ref A1] n) ∈ led)
    (hp1 : (P1, tupO (.bool true) x1 x2) ∈ led)
    (hp2 : (P2, tupO (.int 5) x3 x4) ∈ led)
    (ha1 : (A1, tupO o1 r1 r2) ∈ led)
    (ret : ∀ R Q1 Q2 Q3 ta tb tc td te tf n' h' tk', Fr h₀ L h' m → News h₀ L h' ((R, listOf #[.ref Q1, .ref Q2, .ref Q3] n') :: (Q1, tupO (.bool true) ta tb) :: (Q2, tupO (.int 5) tc td) :: (Q3, tupO oR te tf) :: led) → Q (.ref R) { s with heap := h', toks := tk' })
    : wpAny (model Pg w) (ktrTop dp un gd cn cs L a ccd cl []) (call (.ref 890) [.str c.str tw, .ref SO]) Q E s :=
  hd_gen (items := [⟨P1, (.bool true), x1, x2⟩, ⟨P2, (.int 5), x3, x4⟩, ⟨A1, o1, r1, r2⟩]) B F X T hk XB TB hd hu N hSO ((allC hp1 (allC hp2 (allC ha1 all0)))) (Nat.le_of_ble_eq_true rfl) (.u3 hc hk1) (fun b t' h' tk' hb => (okBad hr hb).elim) (fun p q rest o R Q1 Q2 Q3 ta tb tc td te tf n' h' tk' ho hr' => by have e := okOk hr hr'; subst e; cases ho; exact ret R Q1 Q2 Q3 ta tb tc td te tf n' h' tk')
omit B F X T hk in
theorem lh_3bad {c : Wd} {tw : Tok} {P1 P2 A1 : Addr} {o1 : Op} {x1 x2 x3 x4 r1 r2 : Tok} {bR : Array UInt8} {SO : Addr} {n : Nat} {led : Led} (hr : machF1 c o1 = .bad bR) (hc : c.un = true) (hk1 : OpOk o1) (B : Below A₀ base [] h₀) (F : Fr h₀ L s.heap m) (X : (Kp w.params).In h₀) (T : Top p lo mean mg mb h₀) (hk : cs.kind = .function) (XB : (Kp w.params).In base) (TB : Top p lo mean mg mb base) (hd : dp + 100 < recursionLimit) (hu : un + 1000 < cLine) (N : News h₀ L s.heap led)
    (hSO : (SO, listOf #[.ref P1, .ref P2, .ref A1] n) ∈ led)
    (hp1 : (P1, tupO (.bool true) x1 x2) ∈ led)
    (hp2 : (P2, tupO (.int 5) x3 x4) ∈ led)
    (ha1 : (A1, tupO o1 r1 r2) ∈ led)
    (ret : ∀ t' h' tk', Fr h₀ L h' m → News h₀ L h' led → Q (.str (txt bR) t') { s with heap := h', toks := tk' })
    : wpAny (model Pg w) (ktrTop dp un gd cn cs L a ccd cl []) (call (.ref 890) [.str c.str tw, .ref SO]) Q E s :=
  hd_gen (items := [⟨P1, (.bool true), x1, x2⟩, ⟨P2, (.int 5), x3, x4⟩, ⟨A1, o1, r1, r2⟩]) B F X T hk XB TB hd hu N hSO ((allC hp1 (allC hp2 (allC ha1 all0)))) (Nat.le_of_ble_eq_true rfl) (.u3 hc hk1) (fun b t' h' tk' hb => by have e := badBad hr hb; subst e; exact ret t' h' tk') (fun p q rest o R Q1 Q2 Q3 ta tb tc td te tf n' h' tk' ho hr' => (okBad hr' hr).elim)
omit B F X T hk in
theorem lh_4ok {c : Wd} {tw : Tok} {P1 P2 A1 A2 : Addr} {o1 o2 : Op} {x1 x2 x3 x4 r1 r2 r3 r4 : Tok} {oR : Op} {SO : Addr} {n : Nat} {led : Led} (hr : machF2 c o1 o2 = .ok oR) (hc : c.un = false) (hk1 : OpOk o1) (hk2 : OpOk o2) (B : Below A₀ base [] h₀) (F : Fr h₀ L s.heap m) (X : (Kp w.params).In h₀) (T : Top p lo mean mg mb h₀) (hk : cs.kind = .function) (XB : (Kp w.params).In base) (TB : Top p lo mean mg mb base) (hd : dp + 100 < recursionLimit) (hu : un + 1000 < cLine) (N : News h₀ L s.heap led)
    (hSO : (SO, listOf #[.ref P1, .ref P2, .ref A1, .ref A2] n) ∈ led)
    (hp1 : (P1, tupO (.bool true) x1 x2) ∈ led)
    (hp2 : (P2, tupO (.int 5) x3 x4) ∈ led)
    (ha1 : (A1, tupO o1 r1 r2) ∈ led)
    (ha2 : (A2, tupO o2 r3 r4) ∈ led)
    (ret : ∀ R Q1 Q2 Q3 ta tb tc td te tf n' h' tk', Fr h₀ L h' m → News h₀ L h' ((R, listOf #[.ref Q1, .ref Q2, .ref Q3] n') :: (Q1, tupO (.bool true) ta tb) :: (Q2, tupO (.int 5) tc td) :: (Q3, tupO oR te tf) :: led) → Q (.ref R) { s with heap := h', toks := tk' })
    : wpAny (model Pg w) (ktrTop dp un gd cn cs L a ccd cl []) (call (.ref 890) [.str c.str tw, .ref SO]) Q E s :=
  hd_gen (items := [⟨P1, (.bool true), x1, x2⟩, ⟨P2, (.int 5), x3, x4⟩, ⟨A1, o1, r1, r2⟩, ⟨A2, o2, r3, r4⟩]) B F X T hk XB TB hd hu N hSO ((allC hp1 (allC hp2 (allC ha1 (allC ha2 all0))))) (Nat.le_of_ble_eq_true rfl) (.b4 hc hk1 hk2) (fun b t' h' tk' hb => (okBad hr hb).elim) (fun p q rest o R Q1 Q2 Q3 ta tb tc td te tf n' h' tk' ho hr' => by have e := okOk hr hr'; subst e; cases ho; exact ret R Q1 Q2 Q3 ta tb tc td te tf n' h' tk')
omit B F X T hk in
theorem lh_4bad {c : Wd} {tw : Tok} {P1 P2 A1 A2 : Addr} {o1 o2 : Op} {x1 x2 x3 x4 r1 r2 r3 r4 : Tok} {bR : Array UInt8} {SO : Addr} {n : Nat} {led : Led} (hr : machF2 c o1 o2 = .bad bR) (hc : c.un = false) (hk1 : OpOk o1) (hk2 : OpOk o2) (B : Below A₀ base [] h₀) (F : Fr h₀ L s.heap m) (X : (Kp w.params).In h₀) (T : Top p lo mean mg mb h₀) (hk : cs.kind = .function) (XB : (Kp w.params).In base) (TB : Top p lo mean mg mb base) (hd : dp + 100 < recursionLimit) (hu : un + 1000 < cLine) (N : News h₀ L s.heap led)
    (hSO : (SO, listOf #[.ref P1, .ref P2, .ref A1, .ref A2] n) ∈ led)
    (hp1 : (P1, tupO (.bool true) x1 x2) ∈ led)
    (hp2 : (P2, tupO (.int 5) x3 x4) ∈ led)
    (ha1 : (A1, tupO o1 r1 r2) ∈ led)
    (ha2 : (A2, tupO o2 r3 r4) ∈ led)
    (ret : ∀ t' h' tk', Fr h₀ L h' m → News h₀ L h' led → Q (.str (txt bR) t') { s with heap := h', toks := tk' })
    : wpAny (model Pg w) (ktrTop dp un gd cn cs L a ccd cl []) (call (.ref 890) [.str c.str tw, .ref SO]) Q E s :=
  hd_gen (items := [⟨P1, (.bool true), x1, x2⟩, ⟨P2, (.int 5), x3, x4⟩, ⟨A1, o1, r1, r2⟩, ⟨A2, o2, r3, r4⟩]) B F X T hk XB TB hd hu N hSO ((allC hp1 (allC hp2 (allC ha1 (allC ha2 all0))))) (Nat.le_of_ble_eq_true rfl) (.b4 hc hk1 hk2) (fun b t' h' tk' hb => by have e := badBad hr hb; subst e; exact ret t' h' tk') (fun p q rest o R Q1 Q2 Q3 ta tb tc td te tf n' h' tk' ho hr' => (okBad hr' hr).elim)

end
end
end
end
section








set_option Elab.async true
theorem hd.tw10012880186880212623 : True := .intro
theorem hd.tw10030107230732127627 : True := .intro
theorem hd.tw100483095206116625 : True := .intro
theorem hd.tw1005483496087919985 : True := .intro
theorem hd.tw10098268173465320503 : True := .intro
theorem hd.tw10102539355485613405 : True := .intro
theorem hd.tw10111801491309104144 : True := .intro
theorem hd.tw1011335219593555734 : True := .intro
theorem hd.tw10117440562283002822 : True := .intro
theorem hd.tw1013155817946168525 : True := .intro
theorem hd.tw10170382586518783626 : True := .intro
theorem hd.tw10200926772931222457 : True := .intro
theorem hd.tw102014493982917126 : True := .intro
theorem hd.tw10203026625882799534 : True := .intro
theorem hd.tw10210669037155785340 : True := .intro
theorem hd.tw10216474801634566288 : True := .intro
theorem hd.tw10246146449241189800 : True := .intro
theorem hd.tw10258999931320997221 : True := .intro
theorem hd.tw10259988299927297344 : True := .intro
theorem hd.tw10264135568141901301 : True := .intro
theorem hd.tw10273187271170590260 : True := .intro
theorem hd.tw10283529075043463162 : True := .intro
theorem hd.tw10286656452748174568 : True := .intro
theorem hd.tw10292235466723388172 : True := .intro
theorem hd.tw1033889070964956483 : True := .intro
theorem hd.tw10365702040365258594 : True := .intro
theorem hd.tw10373486401436799106 : True := .intro
theorem hd.tw10376703724636587151 : True := .intro
theorem hd.tw10403243965636340961 : True := .intro
theorem hd.tw10404513684093684653 : True := .intro
theorem hd.tw1043307727769730188 : True := .intro
theorem hd.tw10458740792067480800 : True := .intro
theorem hd.tw10465514089279642386 : True := .intro
theorem hd.tw10507497572311344420 : True := .intro
theorem hd.tw1051681510052472703 : True := .intro
theorem hd.tw10525666975642140466 : True := .intro
theorem hd.tw10531373872144210542 : True := .intro
theorem hd.tw10583446816852156582 : True := .intro
theorem hd.tw10603584201595350602 : True := .intro
theorem hd.tw10614716105012338702 : True := .intro
theorem hd.tw10643592516055977328 : True := .intro
theorem hd.tw10678649693572172417 : True := .intro
theorem hd.tw10738003575532504788 : True := .intro
theorem hd.tw10743916045514856203 : True := .intro
theorem hd.tw10752148897807903841 : True := .intro
theorem hd.tw10763509664835889504 : True := .intro
theorem hd.tw10778013660560245624 : True := .intro
theorem hd.tw10778257442750969130 : True := .intro
theorem hd.tw10781468475247234061 : True := .intro
theorem hd.tw10784824025267889561 : True := .intro
theorem hd.tw10788059911547816233 : True := .intro
theorem hd.tw10792051664901133789 : True := .intro
theorem hd.tw10806950440038215891 : True := .intro
theorem hd.tw10835030195340973342 : True := .intro
theorem hd.tw10841399608879689956 : True := .intro
theorem hd.tw10844753989422098599 : True := .intro
theorem hd.tw10845626234925267891 : True := .intro
theorem hd.tw10847404155465417027 : True := .intro
theorem hd.tw10860895700388868024 : True := .intro
theorem hd.tw10879034167726328663 : True := .intro
theorem hd.tw1088296927520436173 : True := .intro
theorem hd.tw10905682514733158466 : True := .intro
theorem hd.tw10919297434634762262 : True := .intro
theorem hd.tw10933677585905718993 : True := .intro
theorem hd.tw10949625832625181284 : True := .intro
theorem hd.tw10955317050725887447 : True := .intro
theorem hd.tw1097998534492414930 : True := .intro
theorem hd.tw11011131195910976488 : True := .intro
theorem hd.tw11024222330075796079 : True := .intro
theorem hd.tw11032806212648032379 : True := .intro
theorem hd.tw11034497122203965937 : True := .intro
theorem hd.tw11052946933831473538 : True := .intro
theorem hd.tw11054480109507316185 : True := .intro
theorem hd.tw11079593142295127227 : True := .intro
theorem hd.tw11115866451450875312 : True := .intro
theorem hd.tw11117797201346649052 : True := .intro
theorem hd.tw11136197038861592535 : True := .intro
theorem hd.tw11151493826126557119 : True := .intro
theorem hd.tw11151547217846952531 : True := .intro
theorem hd.tw1118553966540926140 : True := .intro
theorem hd.tw11210553801493137410 : True := .intro
theorem hd.tw11213053971927718326 : True := .intro
theorem hd.tw11232374478483605306 : True := .intro
theorem hd.tw11249132867342737325 : True := .intro
theorem hd.tw11251137523995926341 : True := .intro
theorem hd.tw11256106856564762260 : True := .intro
theorem hd.tw11283319371284918911 : True := .intro
theorem hd.tw1129884963351977449 : True := .intro
theorem hd.tw11319892378374348655 : True := .intro
theorem hd.tw11364443708160879001 : True := .intro
theorem hd.tw11375277706881905925 : True := .intro
theorem hd.tw11389486352061984695 : True := .intro
theorem hd.tw11399449904127653305 : True := .intro
theorem hd.tw11402939732021071671 : True := .intro
theorem hd.tw11407884054146074569 : True := .intro
theorem hd.tw11415386828835887437 : True := .intro
theorem hd.tw11434409384045074295 : True := .intro
theorem hd.tw11465210709893060100 : True := .intro
theorem hd.tw11472165163037031739 : True := .intro
theorem hd.tw1147470481896660410 : True := .intro
theorem hd.tw11507959949525687343 : True := .intro
theorem hd.tw11513968764499736323 : True := .intro
theorem hd.tw11551083187376567056 : True := .intro
theorem hd.tw11587034568685482758 : True := .intro
theorem hd.tw11623594800819314181 : True := .intro
theorem hd.tw11631869004601391166 : True := .intro
theorem hd.tw11631947586910100387 : True := .intro
theorem hd.tw11632984921778587759 : True := .intro
theorem hd.tw11636924220087485885 : True := .intro
theorem hd.tw11652457597714270106 : True := .intro
theorem hd.tw11660266114150955751 : True := .intro
theorem hd.tw11663481321943121269 : True := .intro
theorem hd.tw11672842613191775419 : True := .intro
theorem hd.tw11709330566771433103 : True := .intro
theorem hd.tw11749099774412794130 : True := .intro
theorem hd.tw11754176132448286083 : True := .intro
theorem hd.tw11778180911958503814 : True := .intro
theorem hd.tw11814627755841444246 : True := .intro
theorem hd.tw11852641145169952659 : True := .intro
theorem hd.tw11893437276241958245 : True := .intro
theorem hd.tw11905163887095721015 : True := .intro
theorem hd.tw11912922877643110818 : True := .intro
theorem hd.tw11915594877312485397 : True := .intro
theorem hd.tw11917015161858427179 : True := .intro
theorem hd.tw11953376511379268794 : True := .intro
theorem hd.tw11968265576560266318 : True := .intro
theorem hd.tw1197925565968671727 : True := .intro
theorem hd.tw12023040214023829324 : True := .intro
theorem hd.tw12050417470231563642 : True := .intro
theorem hd.tw12058812876911547015 : True := .intro
theorem hd.tw12070051907170230399 : True := .intro
theorem hd.tw12070654863422294720 : True := .intro
theorem hd.tw1208734638264122097 : True := .intro
theorem hd.tw12092154237167983948 : True := .intro
theorem hd.tw12112201142124510154 : True := .intro
theorem hd.tw12113243949977362033 : True := .intro
theorem hd.tw12127338746724423809 : True := .intro
theorem hd.tw12131494931117144662 : True := .intro
theorem hd.tw12211380539166087753 : True := .intro
theorem hd.tw1222794163293265305 : True := .intro
theorem hd.tw12232750017996463310 : True := .intro
theorem hd.tw12254263087357419629 : True := .intro
theorem hd.tw12268275109542032366 : True := .intro
theorem hd.tw12350410155528471161 : True := .intro
theorem hd.tw12353913968525425643 : True := .intro
theorem hd.tw12364972598781006883 : True := .intro
theorem hd.tw12394076208661396346 : True := .intro
theorem hd.tw12399718760709695909 : True := .intro
theorem hd.tw1241404454085649124 : True := .intro
theorem hd.tw12414669353804360901 : True := .intro
theorem hd.tw12459740579856956213 : True := .intro
theorem hd.tw1247026723315081023 : True := .intro
theorem hd.tw12480425521718506038 : True := .intro
theorem hd.tw12487502673411948298 : True := .intro
theorem hd.tw12509009523430927325 : True := .intro
theorem hd.tw12575139184659369484 : True := .intro
theorem hd.tw12588582704262371052 : True := .intro
theorem hd.tw12590977762386282803 : True := .intro
theorem hd.tw12591134339009171964 : True := .intro
theorem hd.tw12611767792052310623 : True := .intro
theorem hd.tw12614811148066621264 : True := .intro
theorem hd.tw12629568148972539762 : True := .intro
theorem hd.tw12631932088317031055 : True := .intro
theorem hd.tw12647368939536790636 : True := .intro
theorem hd.tw12676414471582705871 : True := .intro
theorem hd.tw12685813987229840507 : True := .intro
theorem hd.tw12704988097186499811 : True := .intro
theorem hd.tw12727495553239364174 : True := .intro
theorem hd.tw12744807935193187038 : True := .intro
theorem hd.tw128412058910260475 : True := .intro
theorem hd.tw12870888531099404533 : True := .intro
theorem hd.tw12900700647772717614 : True := .intro
theorem hd.tw12901994302517312135 : True := .intro
theorem hd.tw12936449754285732098 : True := .intro
theorem hd.tw12940713784782232206 : True := .intro
theorem hd.tw12949589719889679912 : True := .intro
theorem hd.tw12952509933414984302 : True := .intro
theorem hd.tw1299046323782801668 : True := .intro
theorem hd.tw12994019391074448376 : True := .intro
theorem hd.tw13001811119718631651 : True := .intro
theorem hd.tw13038990169509382042 : True := .intro
theorem hd.tw13047593935725612058 : True := .intro
theorem hd.tw13051953538815563581 : True := .intro
theorem hd.tw13064122474441708322 : True := .intro
theorem hd.tw13092906067662860646 : True := .intro
theorem hd.tw13122850982685727845 : True := .intro
theorem hd.tw13129650132239662433 : True := .intro
theorem hd.tw13132618709999183898 : True := .intro
theorem hd.tw13171141561276507362 : True := .intro
theorem hd.tw13217225542625558698 : True := .intro
theorem hd.tw13217827037086042188 : True := .intro
theorem hd.tw13218659294841961345 : True := .intro
theorem hd.tw13225837485096350037 : True := .intro
theorem hd.tw13262116225945230012 : True := .intro
theorem hd.tw13267510147771200024 : True := .intro
theorem hd.tw13277076834127875243 : True := .intro
theorem hd.tw13280443560766958183 : True := .intro
theorem hd.tw13285133528070534704 : True := .intro
theorem hd.tw13293453174229064190 : True := .intro
theorem hd.tw1331086792558400476 : True := .intro
theorem hd.tw1331487369976884630 : True := .intro
theorem hd.tw13315533130655954831 : True := .intro
theorem hd.tw13321331477185743149 : True := .intro
theorem hd.tw13322179722446271537 : True := .intro
theorem hd.tw13330244855972007585 : True := .intro
theorem hd.tw13342606739435360313 : True := .intro
theorem hd.tw13363553139645760527 : True := .intro
theorem hd.tw13368278939475635651 : True := .intro
theorem hd.tw13372043803930879067 : True := .intro
theorem hd.tw13431754692932380062 : True := .intro
theorem hd.tw13468300074154594103 : True := .intro
theorem hd.tw13474097485772985973 : True := .intro
theorem hd.tw13475242022060392486 : True := .intro
theorem hd.tw13478424178397462001 : True := .intro
theorem hd.tw13483081372092288885 : True := .intro
theorem hd.tw13518370688599389936 : True := .intro
theorem hd.tw13531707123254989501 : True := .intro
theorem hd.tw13532847315355080253 : True := .intro
theorem hd.tw13534587687697041467 : True := .intro
theorem hd.tw13566260322249332789 : True := .intro
theorem hd.tw13574768056931433239 : True := .intro
theorem hd.tw1359830224848277088 : True := .intro
theorem hd.tw13606922415975196911 : True := .intro
theorem hd.tw13609717118414637909 : True := .intro
theorem hd.tw13642289790063256904 : True := .intro
theorem hd.tw13671756088133313087 : True := .intro
theorem hd.tw13739676773340121844 : True := .intro
theorem hd.tw13770079208771991547 : True := .intro
theorem hd.tw137786328141462057 : True := .intro
theorem hd.tw13783031573616600631 : True := .intro
theorem hd.tw13790719812936386609 : True := .intro
theorem hd.tw1379335367625716243 : True := .intro
theorem hd.tw13828106393651249627 : True := .intro
theorem hd.tw13855881374063213867 : True := .intro
theorem hd.tw13855946660403688772 : True := .intro
theorem hd.tw13866372431405929976 : True := .intro
theorem hd.tw13893168526513508166 : True := .intro
theorem hd.tw13903934854276604550 : True := .intro
theorem hd.tw13919464512627920130 : True := .intro
theorem hd.tw13929354066492186541 : True := .intro
theorem hd.tw13931416462566266981 : True := .intro
theorem hd.tw13994979335412520660 : True := .intro
theorem hd.tw14006173549557618073 : True := .intro
theorem hd.tw14040608126747316905 : True := .intro
theorem hd.tw14060154772996877548 : True := .intro
theorem hd.tw14060237666301923597 : True := .intro
theorem hd.tw1409312971732116557 : True := .intro
theorem hd.tw14137390275340422267 : True := .intro
theorem hd.tw14143348200573808938 : True := .intro
theorem hd.tw14168552714766633299 : True := .intro
theorem hd.tw14176624398918483544 : True := .intro
theorem hd.tw14246236162039180721 : True := .intro
theorem hd.tw1425423193147277237 : True := .intro
theorem hd.tw14294001040229213422 : True := .intro
theorem hd.tw14294344414604881677 : True := .intro
theorem hd.tw14310624532144728618 : True := .intro
theorem hd.tw14353793391729792155 : True := .intro
theorem hd.tw14400467628812073631 : True := .intro
theorem hd.tw14438451200097066615 : True := .intro
theorem hd.tw14439243815434019604 : True := .intro
theorem hd.tw14444963742821833902 : True := .intro
theorem hd.tw14446474709323646786 : True := .intro
theorem hd.tw1445366717492459972 : True := .intro
theorem hd.tw14457593812595234344 : True := .intro
theorem hd.tw14462709497994964445 : True := .intro
theorem hd.tw14478148883734587675 : True := .intro
theorem hd.tw1448358952932078338 : True := .intro
theorem hd.tw14492701947808656938 : True := .intro
theorem hd.tw1452849714261714991 : True := .intro
theorem hd.tw14553816603554493358 : True := .intro
theorem hd.tw14560493823538711346 : True := .intro
theorem hd.tw14567429538950270057 : True := .intro
theorem hd.tw14586822029978311858 : True := .intro
theorem hd.tw14598272352848978880 : True := .intro
theorem hd.tw14612060388864693735 : True := .intro
theorem hd.tw14667805832236412624 : True := .intro
theorem hd.tw14673209030070457562 : True := .intro
theorem hd.tw14683707025165767436 : True := .intro
theorem hd.tw14685462170515437407 : True := .intro
theorem hd.tw14705683404202351889 : True := .intro
theorem hd.tw14706022693812145444 : True := .intro
theorem hd.tw14717894019320604661 : True := .intro
theorem hd.tw14727110085682223627 : True := .intro
theorem hd.tw14745743045033390146 : True := .intro
theorem hd.tw14768889098011018680 : True := .intro
theorem hd.tw14772383043592177042 : True := .intro
theorem hd.tw14778021637374304450 : True := .intro
theorem hd.tw14817486215969520457 : True := .intro
theorem hd.tw14859038896228082724 : True := .intro
theorem hd.tw14914937398881237230 : True := .intro
theorem hd.tw14955159897011116063 : True := .intro
theorem hd.tw14960593345356199642 : True := .intro
theorem hd.tw14980023328507725902 : True := .intro
theorem hd.tw14984183105004643987 : True := .intro
theorem hd.tw15042006015671813226 : True := .intro
theorem hd.tw15043168886218598503 : True := .intro
theorem hd.tw15048261121198461528 : True := .intro
theorem hd.tw1506431575118746342 : True := .intro
theorem hd.tw15064902949301533346 : True := .intro
theorem hd.tw15074197538484233485 : True := .intro
theorem hd.tw15083628210047938546 : True := .intro
theorem hd.tw15089522573102190283 : True := .intro
theorem hd.tw15102309248680683417 : True := .intro
theorem hd.tw15103106377680225435 : True := .intro
theorem hd.tw1511243299971373483 : True := .intro
theorem hd.tw15152743547302097792 : True := .intro
theorem hd.tw15166520500009309586 : True := .intro
theorem hd.tw15179676742415161110 : True := .intro
theorem hd.tw15213948185873263833 : True := .intro
theorem hd.tw15220180469806662145 : True := .intro
theorem hd.tw15228807520496212463 : True := .intro
theorem hd.tw15277330632498426303 : True := .intro
theorem hd.tw15278966056882409248 : True := .intro
theorem hd.tw15279998641719260112 : True := .intro
theorem hd.tw15337868472472888810 : True := .intro
theorem hd.tw15344866539931968096 : True := .intro
theorem hd.tw1535757262459896012 : True := .intro
theorem hd.tw15367242080415987702 : True := .intro
theorem hd.tw15368132723985388332 : True := .intro
theorem hd.tw15378359858306647822 : True := .intro
theorem hd.tw15416985209724490359 : True := .intro
theorem hd.tw15424705756172794927 : True := .intro
theorem hd.tw15427206886491885616 : True := .intro
theorem hd.tw15463257786427224491 : True := .intro
theorem hd.tw15508949281206285077 : True := .intro
theorem hd.tw155142512498542641 : True := .intro
theorem hd.tw15527848837575444561 : True := .intro
theorem hd.tw15529170255622000948 : True := .intro
theorem hd.tw15578025631644234493 : True := .intro
theorem hd.tw15591429051563716170 : True := .intro
theorem hd.tw15595854959937240912 : True := .intro
theorem hd.tw15615420239508185596 : True := .intro
theorem hd.tw15615537253650120727 : True := .intro
theorem hd.tw15616948245753086127 : True := .intro
theorem hd.tw15618049606547972131 : True := .intro
theorem hd.tw15630680890609703042 : True := .intro
theorem hd.tw15634565183472343292 : True := .intro
theorem hd.tw1563692795949630186 : True := .intro
theorem hd.tw15637593595834871717 : True := .intro
theorem hd.tw15643275761693703936 : True := .intro
theorem hd.tw15673258824015622330 : True := .intro
theorem hd.tw15675198926951892251 : True := .intro
theorem hd.tw15683763237869141255 : True := .intro
theorem hd.tw15687388767607454252 : True := .intro
theorem hd.tw15759970867653108152 : True := .intro
theorem hd.tw15790720579355451973 : True := .intro
theorem hd.tw1580110805410547442 : True := .intro
theorem hd.tw1582976572388173787 : True := .intro
theorem hd.tw15856727013471470956 : True := .intro
theorem hd.tw1588505670450824345 : True := .intro
theorem hd.tw15889433306838628275 : True := .intro
theorem hd.tw1589133516308662214 : True := .intro
theorem hd.tw15910714762333108613 : True := .intro
theorem hd.tw15924899543223041283 : True := .intro
theorem hd.tw15946356160694317329 : True := .intro
theorem hd.tw15948780112781908787 : True := .intro
theorem hd.tw15963624873386084050 : True := .intro
theorem hd.tw15987713032478767096 : True := .intro
theorem hd.tw1600037746751723098 : True := .intro
theorem hd.tw16006246977917349235 : True := .intro
theorem hd.tw16007149819294483003 : True := .intro
theorem hd.tw16011055738799735888 : True := .intro
theorem hd.tw16029623286316568529 : True := .intro
theorem hd.tw1603739661141634737 : True := .intro
theorem hd.tw16037735763661986305 : True := .intro
theorem hd.tw16052320808349706082 : True := .intro
theorem hd.tw16053994301053490033 : True := .intro
theorem hd.tw16056359734778111409 : True := .intro
theorem hd.tw16064382804478563927 : True := .intro
theorem hd.tw16091413853298234908 : True := .intro
theorem hd.tw16138627921320673191 : True := .intro
theorem hd.tw16154546982801380032 : True := .intro
theorem hd.tw16156708551869547534 : True := .intro
theorem hd.tw16157073509204512506 : True := .intro
theorem hd.tw16158619036321959407 : True := .intro
theorem hd.tw16169374299450900766 : True := .intro
theorem hd.tw16171809288044610508 : True := .intro
theorem hd.tw16194383521188589630 : True := .intro
theorem hd.tw16211521421427940678 : True := .intro
theorem hd.tw16227762859984022837 : True := .intro
theorem hd.tw16246848685605474055 : True := .intro
theorem hd.tw16257038226119295666 : True := .intro
theorem hd.tw16259696140248634718 : True := .intro
theorem hd.tw162610821266807592 : True := .intro
theorem hd.tw16299908979028503884 : True := .intro
theorem hd.tw16302227732802510677 : True := .intro
theorem hd.tw16332348944364537037 : True := .intro
theorem hd.tw16357263729072622229 : True := .intro
theorem hd.tw16376525773666504680 : True := .intro
theorem hd.tw16412773359747925120 : True := .intro
theorem hd.tw16414904818172857274 : True := .intro
theorem hd.tw16415028865518655546 : True := .intro
theorem hd.tw1643121930917553208 : True := .intro
theorem hd.tw16432713993328977331 : True := .intro
theorem hd.tw16443024508289211202 : True := .intro
theorem hd.tw16456969618363192440 : True := .intro
theorem hd.tw16473244170626142550 : True := .intro
theorem hd.tw16477043939570097188 : True := .intro
theorem hd.tw16487816990975572028 : True := .intro
theorem hd.tw16502264421070913907 : True := .intro
theorem hd.tw16547865195752855329 : True := .intro
theorem hd.tw1660146310509766314 : True := .intro
theorem hd.tw16634568088961857937 : True := .intro
theorem hd.tw16635604280276938560 : True := .intro
theorem hd.tw16640546478005224243 : True := .intro
theorem hd.tw16649331688326792143 : True := .intro
theorem hd.tw16661405048812198066 : True := .intro
theorem hd.tw1666387254794493845 : True := .intro
theorem hd.tw16694946328126371552 : True := .intro
theorem hd.tw16713699803418581334 : True := .intro
theorem hd.tw16722109127936396110 : True := .intro
theorem hd.tw16772102934027710169 : True := .intro
theorem hd.tw16794629799341752650 : True := .intro
theorem hd.tw16823583209533085739 : True := .intro
theorem hd.tw16826083622388986153 : True := .intro
theorem hd.tw16853341256802265648 : True := .intro
theorem hd.tw16868993833207775613 : True := .intro
theorem hd.tw16879956485299554121 : True := .intro
theorem hd.tw16896567674234606475 : True := .intro
theorem hd.tw16904818350239718627 : True := .intro
theorem hd.tw16920754564084929960 : True := .intro
theorem hd.tw16945582573551092051 : True := .intro
theorem hd.tw16970440968685349367 : True := .intro
theorem hd.tw1699103778626983548 : True := .intro
theorem hd.tw17001982702790524580 : True := .intro
theorem hd.tw17002781174329755331 : True := .intro
theorem hd.tw17047115858639842297 : True := .intro
theorem hd.tw17054507655720011243 : True := .intro
theorem hd.tw17066044127408595049 : True := .intro
theorem hd.tw17070941380808615275 : True := .intro
theorem hd.tw17076082267592564974 : True := .intro
theorem hd.tw17087091549796120035 : True := .intro
theorem hd.tw17088047866570459193 : True := .intro
theorem hd.tw1712922718373300912 : True := .intro
theorem hd.tw17130151131035750659 : True := .intro
theorem hd.tw17143205804819765802 : True := .intro
theorem hd.tw17172931820748874959 : True := .intro
theorem hd.tw17217394356764393341 : True := .intro
theorem hd.tw17234923516513369237 : True := .intro
theorem hd.tw17245122621420947353 : True := .intro
theorem hd.tw17252143746492648416 : True := .intro
theorem hd.tw17258206423299326598 : True := .intro
theorem hd.tw17273587926920868623 : True := .intro
theorem hd.tw17312999752573914782 : True := .intro
theorem hd.tw17325209927041812611 : True := .intro
theorem hd.tw17330132731328240911 : True := .intro
theorem hd.tw17330945745186091897 : True := .intro
theorem hd.tw17335414052712997756 : True := .intro
theorem hd.tw17336936450418997793 : True := .intro
theorem hd.tw1736311965527578767 : True := .intro
theorem hd.tw17377529257436501650 : True := .intro
theorem hd.tw17387473266821786944 : True := .intro
theorem hd.tw17420951861521290806 : True := .intro
theorem hd.tw17429513623812275283 : True := .intro
theorem hd.tw17447410573909459338 : True := .intro
theorem hd.tw17454471701868102899 : True := .intro
theorem hd.tw17470177872615007328 : True := .intro
theorem hd.tw17471934795394947791 : True := .intro
theorem hd.tw17491280204586788870 : True := .intro
theorem hd.tw17491317419825422843 : True := .intro
theorem hd.tw17495340751864218003 : True := .intro
theorem hd.tw17542962492245011380 : True := .intro
theorem hd.tw17562767543260142214 : True := .intro
theorem hd.tw17570734847185409352 : True := .intro
theorem hd.tw17574625026820762457 : True := .intro
theorem hd.tw17577478241444706838 : True := .intro
theorem hd.tw17588044629489971554 : True := .intro
theorem hd.tw17599816209265215132 : True := .intro
theorem hd.tw17606422857730326317 : True := .intro
theorem hd.tw17628472586750557451 : True := .intro
theorem hd.tw17640862679970642326 : True := .intro
theorem hd.tw17672654358674132775 : True := .intro
theorem hd.tw17673860158736603733 : True := .intro
theorem hd.tw17679848547673146604 : True := .intro
theorem hd.tw17681399029576232318 : True := .intro
theorem hd.tw17714235663813219645 : True := .intro
theorem hd.tw17737187407176874954 : True := .intro
theorem hd.tw17739348878880393726 : True := .intro
theorem hd.tw17772917993097084435 : True := .intro
theorem hd.tw1781861727890032366 : True := .intro
theorem hd.tw17843490464661113860 : True := .intro
theorem hd.tw17893044597097874663 : True := .intro
theorem hd.tw17901334829092211166 : True := .intro
theorem hd.tw17902569758825723728 : True := .intro
theorem hd.tw17903497710992402801 : True := .intro
theorem hd.tw17925215291927510665 : True := .intro
theorem hd.tw1792636949448641307 : True := .intro
theorem hd.tw17948085552500728524 : True := .intro
theorem hd.tw17950676927832955104 : True := .intro
theorem hd.tw17956543221229664512 : True := .intro
theorem hd.tw17975533764899295144 : True := .intro
theorem hd.tw17986969038992634876 : True := .intro
theorem hd.tw17989097746536338734 : True := .intro
theorem hd.tw18043258885162392589 : True := .intro
theorem hd.tw18087722134493236510 : True := .intro
theorem hd.tw18093812233618175256 : True := .intro
theorem hd.tw1809687716253123402 : True := .intro
theorem hd.tw18103420901670897651 : True := .intro
theorem hd.tw18141817174179626276 : True := .intro
theorem hd.tw18160293313031310949 : True := .intro
theorem hd.tw18163647496604598072 : True := .intro
theorem hd.tw18166333605607142505 : True := .intro
theorem hd.tw18176940659606848779 : True := .intro
theorem hd.tw18185175575083235020 : True := .intro
theorem hd.tw1820180628909398317 : True := .intro
theorem hd.tw18233516762306594366 : True := .intro
theorem hd.tw18241275227582772068 : True := .intro
theorem hd.tw18245042118932799458 : True := .intro
theorem hd.tw18264374347568628810 : True := .intro
theorem hd.tw18268791191939849864 : True := .intro
theorem hd.tw18291419657060728153 : True := .intro
theorem hd.tw18293732401869909652 : True := .intro
theorem hd.tw18300207936620678264 : True := .intro
theorem hd.tw18321552122766947510 : True := .intro
theorem hd.tw18322514126500204803 : True := .intro
theorem hd.tw18343703819029505601 : True := .intro
theorem hd.tw18358800413957953924 : True := .intro
theorem hd.tw1836080755315867724 : True := .intro
theorem hd.tw18421049791903953903 : True := .intro
theorem hd.tw18439511094173506614 : True := .intro
theorem hd.tw1847840615245081061 : True := .intro
theorem hd.tw185848376630758926 : True := .intro
theorem hd.tw1865391376527767206 : True := .intro
theorem hd.tw1870067075039425230 : True := .intro
theorem hd.tw1882180444382439491 : True := .intro
theorem hd.tw189712035060473897 : True := .intro
theorem hd.tw190519026028168232 : True := .intro
theorem hd.tw1905405397951419166 : True := .intro
theorem hd.tw1936894748134917147 : True := .intro
theorem hd.tw1954109241102656831 : True := .intro
theorem hd.tw1997569388931296116 : True := .intro
theorem hd.tw2000490053193787569 : True := .intro
theorem hd.tw2001351230973187099 : True := .intro
theorem hd.tw2004659784336800654 : True := .intro
theorem hd.tw2040990291671593033 : True := .intro
theorem hd.tw2042292140826266357 : True := .intro
theorem hd.tw2051048951616859547 : True := .intro
theorem hd.tw2068664650715991707 : True := .intro
theorem hd.tw2101469004524951375 : True := .intro
theorem hd.tw2114630138375439770 : True := .intro
theorem hd.tw212345690472687942 : True := .intro
theorem hd.tw2134215046882385847 : True := .intro
theorem hd.tw2167537188350426706 : True := .intro
theorem hd.tw2195365466389143174 : True := .intro
theorem hd.tw2216850387143573719 : True := .intro
theorem hd.tw2252305205657439004 : True := .intro
theorem hd.tw22551697357593593 : True := .intro
theorem hd.tw2263123870574935043 : True := .intro
theorem hd.tw2274498078352570744 : True := .intro
theorem hd.tw2284436838669742495 : True := .intro
theorem hd.tw2295870552580634182 : True := .intro
theorem hd.tw2315301623876862497 : True := .intro
theorem hd.tw2323474266016966308 : True := .intro
theorem hd.tw2327210489368252092 : True := .intro
theorem hd.tw2329189449893159454 : True := .intro
theorem hd.tw2371736936440567457 : True := .intro
theorem hd.tw2386827423013361158 : True := .intro
theorem hd.tw242841246431481386 : True := .intro
theorem hd.tw2448417245163862455 : True := .intro
theorem hd.tw2457190517430149469 : True := .intro
theorem hd.tw2468469042602058204 : True := .intro
theorem hd.tw2480057099694739299 : True := .intro
theorem hd.tw2489000522355961661 : True := .intro
theorem hd.tw2502866573005156581 : True := .intro
theorem hd.tw257007361410690125 : True := .intro
theorem hd.tw2580477087445282633 : True := .intro
theorem hd.tw2595994805191909183 : True := .intro
theorem hd.tw2598446214317162929 : True := .intro
theorem hd.tw2603259988358896889 : True := .intro
theorem hd.tw2608437505485318709 : True := .intro
theorem hd.tw2616952524820836436 : True := .intro
theorem hd.tw262745018181394680 : True := .intro
theorem hd.tw2658526732547218105 : True := .intro
theorem hd.tw2708950531961675432 : True := .intro
theorem hd.tw2739504486584576224 : True := .intro
theorem hd.tw2749571799005735971 : True := .intro
theorem hd.tw2781682124601125471 : True := .intro
theorem hd.tw2783992281797965187 : True := .intro
theorem hd.tw2799067240506288376 : True := .intro
theorem hd.tw2799716289819351777 : True := .intro
theorem hd.tw2808349399557158395 : True := .intro
theorem hd.tw2835945797392061305 : True := .intro
theorem hd.tw2845207389951388047 : True := .intro
theorem hd.tw2845679848157327705 : True := .intro
theorem hd.tw2855845756224970109 : True := .intro
theorem hd.tw2857934150171401120 : True := .intro
theorem hd.tw2867327485932766208 : True := .intro
theorem hd.tw2871226400543044806 : True := .intro
theorem hd.tw2887051446865420828 : True := .intro
theorem hd.tw2922222751358710265 : True := .intro
theorem hd.tw2930668341846507884 : True := .intro
theorem hd.tw2951005344575393816 : True := .intro
theorem hd.tw2960447077969926378 : True := .intro
theorem hd.tw2999033326186475339 : True := .intro
theorem hd.tw3039998526598829958 : True := .intro
theorem hd.tw307737655149646647 : True := .intro
theorem hd.tw3085183777334472315 : True := .intro
theorem hd.tw3109861748172591687 : True := .intro
theorem hd.tw3173010612589774626 : True := .intro
theorem hd.tw3182187488490625086 : True := .intro
theorem hd.tw3196399650302076718 : True := .intro
theorem hd.tw3219085151875037572 : True := .intro
theorem hd.tw3229955645248102723 : True := .intro
theorem hd.tw3259873300814134281 : True := .intro
theorem hd.tw3309697970292668127 : True := .intro
theorem hd.tw3350930974749635488 : True := .intro
theorem hd.tw3364418463632694928 : True := .intro
theorem hd.tw3381375190539634487 : True := .intro
theorem hd.tw3386092968808520798 : True := .intro
theorem hd.tw3404104791013757517 : True := .intro
theorem hd.tw3419581819265744254 : True := .intro
theorem hd.tw3429492842335990350 : True := .intro
theorem hd.tw3442329435671937591 : True := .intro
theorem hd.tw3443669649825651883 : True := .intro
theorem hd.tw3451239065008710300 : True := .intro
theorem hd.tw3461278022420108110 : True := .intro
theorem hd.tw3480954088277226078 : True := .intro
theorem hd.tw3484992998616243462 : True := .intro
theorem hd.tw3493717111155160527 : True := .intro
theorem hd.tw3496965988886986938 : True := .intro
theorem hd.tw3536873572635521401 : True := .intro
theorem hd.tw3571134770919094901 : True := .intro
theorem hd.tw3608708970678896270 : True := .intro
theorem hd.tw3646829019195819677 : True := .intro
theorem hd.tw3649758429140192277 : True := .intro
theorem hd.tw3660579746685279459 : True := .intro
theorem hd.tw3673020696563887462 : True := .intro
theorem hd.tw3673089383077640791 : True := .intro
theorem hd.tw368366308016060594 : True := .intro
theorem hd.tw3694398316872202419 : True := .intro
theorem hd.tw3704167492566942397 : True := .intro
theorem hd.tw3722166409189360004 : True := .intro
theorem hd.tw3759623122121258479 : True := .intro
theorem hd.tw3763122126050802206 : True := .intro
theorem hd.tw3789350110615891812 : True := .intro
theorem hd.tw3795277891434052102 : True := .intro
theorem hd.tw3816877163431070358 : True := .intro
theorem hd.tw3828038474966422129 : True := .intro
theorem hd.tw3876449026389394717 : True := .intro
theorem hd.tw3913528116038191188 : True := .intro
theorem hd.tw3915529967508079626 : True := .intro
theorem hd.tw3919010098100093602 : True := .intro
theorem hd.tw3920623390966001496 : True := .intro
theorem hd.tw3922637787740509324 : True := .intro
theorem hd.tw3940546777539579641 : True := .intro
theorem hd.tw3941438180925939637 : True := .intro
theorem hd.tw395138700845864316 : True := .intro
theorem hd.tw3969467460574380271 : True := .intro
theorem hd.tw4014540891139286612 : True := .intro
theorem hd.tw4021928978595405253 : True := .intro
theorem hd.tw4065347644161347641 : True := .intro
theorem hd.tw4068527845204499245 : True := .intro
theorem hd.tw4086058157674990017 : True := .intro
theorem hd.tw4091639524402994376 : True := .intro
theorem hd.tw4115565904173853331 : True := .intro
theorem hd.tw4126306136578151734 : True := .intro
theorem hd.tw4138081844389336918 : True := .intro
theorem hd.tw4172343393113369950 : True := .intro
theorem hd.tw4182648748547736412 : True := .intro
theorem hd.tw4225703048834024713 : True := .intro
theorem hd.tw4272726840584523970 : True := .intro
theorem hd.tw4282304852377368616 : True := .intro
theorem hd.tw4282359134580295075 : True := .intro
theorem hd.tw4292457097857839397 : True := .intro
theorem hd.tw4299596416071116603 : True := .intro
theorem hd.tw4310969922304039945 : True := .intro
theorem hd.tw4315991029959535628 : True := .intro
theorem hd.tw432457690288141553 : True := .intro
theorem hd.tw4360684699965382250 : True := .intro
theorem hd.tw4363365295628954845 : True := .intro
theorem hd.tw4367231431732253908 : True := .intro
theorem hd.tw4367455430839740993 : True := .intro
theorem hd.tw4377701919642642989 : True := .intro
theorem hd.tw4383666589626881386 : True := .intro
theorem hd.tw4402725079659364252 : True := .intro
theorem hd.tw4424954536736003961 : True := .intro
theorem hd.tw442638132926106271 : True := .intro
theorem hd.tw4449123307109862055 : True := .intro
theorem hd.tw4478166936697009375 : True := .intro
theorem hd.tw4478177076189095293 : True := .intro
theorem hd.tw4478964076566166474 : True := .intro
theorem hd.tw4494801613693538912 : True := .intro
theorem hd.tw4523669819894539328 : True := .intro
theorem hd.tw4527685146903026889 : True := .intro
theorem hd.tw4571360026077952820 : True := .intro
theorem hd.tw4581847759332874082 : True := .intro
theorem hd.tw4609310046291750870 : True := .intro
theorem hd.tw461538923250603899 : True := .intro
theorem hd.tw4642405928176397000 : True := .intro
theorem hd.tw4643362625855044894 : True := .intro
theorem hd.tw469108185253701220 : True := .intro
theorem hd.tw4702841417184801058 : True := .intro
theorem hd.tw4706079058837389440 : True := .intro
theorem hd.tw4724112764586752083 : True := .intro
theorem hd.tw4730091804998409952 : True := .intro
theorem hd.tw4734902545126651661 : True := .intro
theorem hd.tw4768578896829404305 : True := .intro
theorem hd.tw4788038989552484473 : True := .intro
theorem hd.tw4819202231147424091 : True := .intro
theorem hd.tw4833718069199227053 : True := .intro
theorem hd.tw4851647983119433812 : True := .intro
theorem hd.tw4856431653887292112 : True := .intro
theorem hd.tw4867443594122359892 : True := .intro
theorem hd.tw4971549296188076032 : True := .intro
theorem hd.tw4990156530697904881 : True := .intro
theorem hd.tw4993660671451451078 : True := .intro
theorem hd.tw500953250457666378 : True := .intro
theorem hd.tw5009564483982726761 : True := .intro
theorem hd.tw5010264101278932077 : True := .intro
theorem hd.tw5036846961687405229 : True := .intro
theorem hd.tw511748877826530558 : True := .intro
theorem hd.tw5130813555471234732 : True := .intro
theorem hd.tw5148922909946612681 : True := .intro
theorem hd.tw5167245352685981253 : True := .intro
theorem hd.tw5174551420813472067 : True := .intro
theorem hd.tw5184668335242038379 : True := .intro
theorem hd.tw5189956158058943387 : True := .intro
theorem hd.tw5190246844813560578 : True := .intro
theorem hd.tw519851828213033955 : True := .intro
theorem hd.tw5220083430330967483 : True := .intro
theorem hd.tw5238241317806426387 : True := .intro
theorem hd.tw5245234834050458271 : True := .intro
theorem hd.tw5247051413645994129 : True := .intro
theorem hd.tw526207354791536317 : True := .intro
theorem hd.tw5278057926702712004 : True := .intro
theorem hd.tw5282504435634884242 : True := .intro
theorem hd.tw5283464899586487735 : True := .intro
theorem hd.tw5289708365253275695 : True := .intro
theorem hd.tw5292301768408028288 : True := .intro
theorem hd.tw5318216170032084099 : True := .intro
theorem hd.tw5343241284826551009 : True := .intro
theorem hd.tw5360435025570183010 : True := .intro
theorem hd.tw5362516397382645915 : True := .intro
theorem hd.tw5363564295841288755 : True := .intro
theorem hd.tw5366084841770067474 : True := .intro
theorem hd.tw5373601922739893978 : True := .intro
theorem hd.tw5391431472348687022 : True := .intro
theorem hd.tw541196102884509978 : True := .intro
theorem hd.tw5416991563250132298 : True := .intro
theorem hd.tw5433107678231618845 : True := .intro
theorem hd.tw5480042469492414594 : True := .intro
theorem hd.tw5486487638281291605 : True := .intro
theorem hd.tw5505005885091257285 : True := .intro
theorem hd.tw5505332120971382143 : True := .intro
theorem hd.tw5513025101015932971 : True := .intro
theorem hd.tw5535567543195554156 : True := .intro
theorem hd.tw5549315172176941698 : True := .intro
theorem hd.tw5562173858411828344 : True := .intro
theorem hd.tw5567388512258382067 : True := .intro
theorem hd.tw5574845727924001799 : True := .intro
theorem hd.tw5592360268479517082 : True := .intro
theorem hd.tw5600941254961969508 : True := .intro
theorem hd.tw5608270528595127837 : True := .intro
theorem hd.tw561391293025646643 : True := .intro
theorem hd.tw5629675986466331604 : True := .intro
theorem hd.tw5635641802508607975 : True := .intro
theorem hd.tw5657824000916062451 : True := .intro
theorem hd.tw5667655126489319660 : True := .intro
theorem hd.tw567884609423149705 : True := .intro
theorem hd.tw5715356086224469760 : True := .intro
theorem hd.tw5715734110848049390 : True := .intro
theorem hd.tw574300837803046910 : True := .intro
theorem hd.tw5859118754885311737 : True := .intro
theorem hd.tw5873113503399164460 : True := .intro
theorem hd.tw5899666649113621702 : True := .intro
theorem hd.tw5902613922787404954 : True := .intro
theorem hd.tw5927567313105069670 : True := .intro
theorem hd.tw5961118342813265553 : True := .intro
theorem hd.tw5976792059365374437 : True := .intro
theorem hd.tw5983496337302601536 : True := .intro
theorem hd.tw5987830557187376847 : True := .intro
theorem hd.tw6014424301940151174 : True := .intro
theorem hd.tw6019021122589006684 : True := .intro
theorem hd.tw6038821095411175016 : True := .intro
theorem hd.tw6060742912462422084 : True := .intro
theorem hd.tw6079173187612997037 : True := .intro
theorem hd.tw6123773746684550334 : True := .intro
theorem hd.tw6136932545381038964 : True := .intro
theorem hd.tw6140570298594658328 : True := .intro
theorem hd.tw6164396464334811476 : True := .intro
theorem hd.tw617508947420966582 : True := .intro
theorem hd.tw6181573660694698118 : True := .intro
theorem hd.tw6184208073178115725 : True := .intro
theorem hd.tw6184460063843016694 : True := .intro
theorem hd.tw6186238094035137676 : True := .intro
theorem hd.tw6196171512934965099 : True := .intro
theorem hd.tw6199765714743212253 : True := .intro
theorem hd.tw6213412439835118660 : True := .intro
theorem hd.tw6276725880618359904 : True := .intro
theorem hd.tw6278647508926252785 : True := .intro
theorem hd.tw6293948785866598258 : True := .intro
theorem hd.tw6295535725891239091 : True := .intro
theorem hd.tw6308581086252854402 : True := .intro
theorem hd.tw6352655612330318208 : True := .intro
theorem hd.tw6394381022753523788 : True := .intro
theorem hd.tw6407587892757256292 : True := .intro
theorem hd.tw6411954120941647267 : True := .intro
theorem hd.tw6438293893037913957 : True := .intro
theorem hd.tw6442067068224118133 : True := .intro
theorem hd.tw6449127861642672459 : True := .intro
theorem hd.tw6469175993241445255 : True := .intro
theorem hd.tw6545403380812914513 : True := .intro
theorem hd.tw6547078798241139092 : True := .intro
theorem hd.tw6555240042291301478 : True := .intro
theorem hd.tw656455966557771466 : True := .intro
theorem hd.tw6578402527460240241 : True := .intro
theorem hd.tw6598312636042714100 : True := .intro
theorem hd.tw6615107907471364465 : True := .intro
theorem hd.tw6627881031435992008 : True := .intro
theorem hd.tw663384727985864361 : True := .intro
theorem hd.tw6636792957720756321 : True := .intro
theorem hd.tw6669269137521125552 : True := .intro
theorem hd.tw6683769817339685419 : True := .intro
theorem hd.tw6709418730364537143 : True := .intro
theorem hd.tw6755925336976613232 : True := .intro
theorem hd.tw6759412095888398321 : True := .intro
theorem hd.tw6761669909254768831 : True := .intro
theorem hd.tw6767318904944593275 : True := .intro
theorem hd.tw6769732088879122475 : True := .intro
theorem hd.tw6780557218761844654 : True := .intro
theorem hd.tw678209747344391502 : True := .intro
theorem hd.tw6785817131721698500 : True := .intro
theorem hd.tw6818987989461384207 : True := .intro
theorem hd.tw6819123309680001836 : True := .intro
theorem hd.tw6820862383352777685 : True := .intro
theorem hd.tw6824622198901579176 : True := .intro
theorem hd.tw6838551448383532254 : True := .intro
theorem hd.tw6868836192036940282 : True := .intro
theorem hd.tw6877226645827823821 : True := .intro
theorem hd.tw6879831473291441079 : True := .intro
theorem hd.tw6882427118574961969 : True := .intro
theorem hd.tw6898005170327248138 : True := .intro
theorem hd.tw689954013368505116 : True := .intro
theorem hd.tw6906073325868019850 : True := .intro
theorem hd.tw6924109203229866365 : True := .intro
theorem hd.tw6957150274394394060 : True := .intro
theorem hd.tw6965799899956892507 : True := .intro
theorem hd.tw697623264460660564 : True := .intro
theorem hd.tw6982297934935202809 : True := .intro
theorem hd.tw6988595667528144454 : True := .intro
theorem hd.tw6990203504111849199 : True := .intro
theorem hd.tw6998783941825042932 : True := .intro
theorem hd.tw7006195865600381663 : True := .intro
theorem hd.tw701333769924781912 : True := .intro
theorem hd.tw7023726343779634624 : True := .intro
theorem hd.tw7028611270464810887 : True := .intro
theorem hd.tw7031273417212677730 : True := .intro
theorem hd.tw7076163891533521732 : True := .intro
theorem hd.tw7080932558258925280 : True := .intro
theorem hd.tw7082855905992002993 : True := .intro
theorem hd.tw7085514621470718492 : True := .intro
theorem hd.tw7120233287515763914 : True := .intro
theorem hd.tw714852897916480489 : True := .intro
theorem hd.tw7153062008950511462 : True := .intro
theorem hd.tw7174315439194531881 : True := .intro
theorem hd.tw7191455744419660376 : True := .intro
theorem hd.tw7240586211207864342 : True := .intro
theorem hd.tw7261450039545342454 : True := .intro
theorem hd.tw7270182246851987180 : True := .intro
theorem hd.tw728884934406724761 : True := .intro
theorem hd.tw7289601568589263668 : True := .intro
theorem hd.tw7289634563603522867 : True := .intro
theorem hd.tw7292484366425897655 : True := .intro
theorem hd.tw7317836474542784337 : True := .intro
theorem hd.tw732345407407602841 : True := .intro
theorem hd.tw7354087734392854552 : True := .intro
theorem hd.tw7355570028127101125 : True := .intro
theorem hd.tw7366208706002141716 : True := .intro
theorem hd.tw7372000682148998216 : True := .intro
theorem hd.tw7379015992945566340 : True := .intro
theorem hd.tw7382370116671421104 : True := .intro
theorem hd.tw7395787858480733455 : True := .intro
theorem hd.tw7492773218913965947 : True := .intro
theorem hd.tw7494724483528729301 : True := .intro
theorem hd.tw7512474625130614241 : True := .intro
theorem hd.tw7519716089354478335 : True := .intro
theorem hd.tw7523672394736509286 : True := .intro
theorem hd.tw7525542149764818722 : True := .intro
theorem hd.tw7526368328331116154 : True := .intro
theorem hd.tw7528090204519254293 : True := .intro
theorem hd.tw7534799579077118603 : True := .intro
theorem hd.tw7540655947842036084 : True := .intro
theorem hd.tw7540741092611519060 : True := .intro
theorem hd.tw7541792107247259296 : True := .intro
theorem hd.tw7578210074245671484 : True := .intro
theorem hd.tw758273949599710562 : True := .intro
theorem hd.tw7598622570094877466 : True := .intro
theorem hd.tw7610815399733428385 : True := .intro
theorem hd.tw7626941382939369770 : True := .intro
theorem hd.tw7628703163842673926 : True := .intro
theorem hd.tw7676003278276379012 : True := .intro
theorem hd.tw7691918140598264929 : True := .intro
theorem hd.tw7698358502638924378 : True := .intro
theorem hd.tw7712595579559962911 : True := .intro
theorem hd.tw7721951785955056133 : True := .intro
theorem hd.tw7746578258024575070 : True := .intro
theorem hd.tw7752569895197466512 : True := .intro
theorem hd.tw7754304195085646258 : True := .intro
theorem hd.tw7792395482447073224 : True := .intro
theorem hd.tw7880807054014371918 : True := .intro
theorem hd.tw7891253978561527248 : True := .intro
theorem hd.tw7898215921889874393 : True := .intro
theorem hd.tw7914949630228597729 : True := .intro
theorem hd.tw7927469264209771579 : True := .intro
theorem hd.tw7941745277869089046 : True := .intro
theorem hd.tw8004679753235328684 : True := .intro
theorem hd.tw8015326511298524721 : True := .intro
theorem hd.tw8025032847418708242 : True := .intro
theorem hd.tw8044012406986999415 : True := .intro
theorem hd.tw8047900516022102942 : True := .intro
theorem hd.tw8068729725432388964 : True := .intro
theorem hd.tw8081886968326746073 : True := .intro
theorem hd.tw8100839570337242658 : True := .intro
theorem hd.tw8112040973832200146 : True := .intro
theorem hd.tw8117029840178788049 : True := .intro
theorem hd.tw8134915037123179040 : True := .intro
theorem hd.tw8184699220007379433 : True := .intro
theorem hd.tw8191903926673212241 : True := .intro
theorem hd.tw8226494294326810461 : True := .intro
theorem hd.tw8242931771332617035 : True := .intro
theorem hd.tw8244733829118024811 : True := .intro
theorem hd.tw8273930003744585626 : True := .intro
theorem hd.tw8293946417935249925 : True := .intro
theorem hd.tw8312999807965096350 : True := .intro
theorem hd.tw8317466277049474617 : True := .intro
theorem hd.tw833173182276230429 : True := .intro
theorem hd.tw8343274005884668182 : True := .intro
theorem hd.tw8351282476255451920 : True := .intro
theorem hd.tw8356816923877370021 : True := .intro
theorem hd.tw8381844023166312768 : True := .intro
theorem hd.tw845060206244984605 : True := .intro
theorem hd.tw8457440626546761165 : True := .intro
theorem hd.tw8458067239894703972 : True := .intro
theorem hd.tw8472141830624432390 : True := .intro
theorem hd.tw8493152586797012548 : True := .intro
theorem hd.tw8516288146210602744 : True := .intro
theorem hd.tw8531993380330477603 : True := .intro
theorem hd.tw8538877666451538035 : True := .intro
theorem hd.tw8545014587354053640 : True := .intro
theorem hd.tw8587404781116728655 : True := .intro
theorem hd.tw8589211134812392127 : True := .intro
theorem hd.tw8609351116199087170 : True := .intro
theorem hd.tw8652628183442184457 : True := .intro
theorem hd.tw8683856772340465682 : True := .intro
theorem hd.tw8684328023851190084 : True := .intro
theorem hd.tw8716120427605611371 : True := .intro
theorem hd.tw8727321023445011275 : True := .intro
theorem hd.tw8735263284916673568 : True := .intro
theorem hd.tw8735439470984438652 : True := .intro
theorem hd.tw876933089483189297 : True := .intro
theorem hd.tw8770205317985620760 : True := .intro
theorem hd.tw8770659054964912022 : True := .intro
theorem hd.tw8773699223549846113 : True := .intro
theorem hd.tw8801323125487838256 : True := .intro
theorem hd.tw8803977449572941912 : True := .intro
theorem hd.tw8811097733284410319 : True := .intro
theorem hd.tw8887996145723391905 : True := .intro
theorem hd.tw8912348807662434688 : True := .intro
theorem hd.tw8934143017859847078 : True := .intro
theorem hd.tw8945485805214734075 : True := .intro
theorem hd.tw8965841893048198262 : True := .intro
theorem hd.tw8977307856219701671 : True := .intro
theorem hd.tw8977460988437922124 : True := .intro
theorem hd.tw8990313861142287110 : True := .intro
theorem hd.tw9009610825154827081 : True := .intro
theorem hd.tw9013056391748086436 : True := .intro
theorem hd.tw9073681462420916055 : True := .intro
theorem hd.tw9077708301081682751 : True := .intro
theorem hd.tw9087110039335098043 : True := .intro
theorem hd.tw9131607905817354932 : True := .intro
theorem hd.tw9170477692918782315 : True := .intro
theorem hd.tw9184186324627900627 : True := .intro
theorem hd.tw920214292312260371 : True := .intro
theorem hd.tw9244321171653502345 : True := .intro
theorem hd.tw9271970288684553227 : True := .intro
theorem hd.tw9277588360372424766 : True := .intro
theorem hd.tw9298403506768410418 : True := .intro
theorem hd.tw9325612240067072397 : True := .intro
theorem hd.tw9330823016148744750 : True := .intro
theorem hd.tw9330943631129107780 : True := .intro
theorem hd.tw9341642984632610673 : True := .intro
theorem hd.tw9345676750909349944 : True := .intro
theorem hd.tw9386895884608548742 : True := .intro
theorem hd.tw9390866547671247325 : True := .intro
theorem hd.tw9398405308114057262 : True := .intro
theorem hd.tw940617070666608080 : True := .intro
theorem hd.tw9406673726873002282 : True := .intro
theorem hd.tw9420132969298855359 : True := .intro
theorem hd.tw9421340871869096474 : True := .intro
theorem hd.tw9427301549700849589 : True := .intro
theorem hd.tw9429285754427346401 : True := .intro
theorem hd.tw9449672872311958731 : True := .intro
theorem hd.tw9459050058782445324 : True := .intro
theorem hd.tw9467313397243273497 : True := .intro
theorem hd.tw9476321141362543215 : True := .intro
theorem hd.tw9496365245306024149 : True := .intro
theorem hd.tw9499510787657705874 : True := .intro
theorem hd.tw9513423893830186035 : True := .intro
theorem hd.tw9533747618267967006 : True := .intro
theorem hd.tw9555612238305686254 : True := .intro
theorem hd.tw9557236495431379559 : True := .intro
theorem hd.tw9566141503761928105 : True := .intro
theorem hd.tw9577689765879766989 : True := .intro
theorem hd.tw9606253495797119724 : True := .intro
theorem hd.tw960944832710211464 : True := .intro
theorem hd.tw9627899436633539337 : True := .intro
theorem hd.tw9631708518359487223 : True := .intro
theorem hd.tw9657781627882305391 : True := .intro
theorem hd.tw9673543361469618366 : True := .intro
theorem hd.tw9699921096746590425 : True := .intro
theorem hd.tw9702936160620672325 : True := .intro
theorem hd.tw9719896912496429819 : True := .intro
theorem hd.tw9731375825926819010 : True := .intro
theorem hd.tw9741134391959003819 : True := .intro
theorem hd.tw9748044761591592747 : True := .intro
theorem hd.tw9753359207989701909 : True := .intro
theorem hd.tw9763420282994701918 : True := .intro
theorem hd.tw978945382295711627 : True := .intro
theorem hd.tw9842699097658496709 : True := .intro
theorem hd.tw9864973744126774698 : True := .intro
theorem hd.tw991583007596301734 : True := .intro
theorem hd.tw9935843964934634818 : True := .intro
theorem hd.tw9960721518486171458 : True := .intro
theorem hd.tw9983964734214183352 : True := .intro
theorem hd.tw9983995961361265002 : True := .intro
theorem hd.tw9990345226319884068 : True := .intro
theorem hd.tw10253174241230309411 : True := .intro
set_option maxRecDepth 100000 in
set_option maxHeartbeats 8000000 in
theorem hd : PySem.Challenge.rw_on0276_01.Holds := wit (by exact Wit.get : Wit (by
  k_with "off16" => skip
  k_with "off9" => skip
  k_with "my call ref" => ((fail_if_success (k_extra "off19")); k_here; (with_reducible show wpAny _ _ (call (Value.ref 847) [Value.int _ _, Value.int _ _]) _ _ _); k_dflt (refine' c_lnear (by k_asm) (by k_asm) (by k_asm) (by k_asm) (by first | exact rfl | assumption | fail) (by k_room) (by k_extra "units") (by k_asm) (by first | assumption | omega | fail) (by first | assumption | (k_extra "bnd") | exact mulSm (by first | assumption | (k_extra "bnd")) (by first | assumption | (k_extra "bnd")) | fail) (by first | assumption | (k_extra "bnd") | exact mulSm (by first | assumption | (k_extra "bnd")) (by first | assumption | (k_extra "bnd")) | fail) ?_); intro v'_k t'_k h'_k tk'_k hv'_k F'_k N'_k; (try dsimp only); (try k_sweep))
  k_with "my eval Call" => ((fail_if_success (k_extra "off19")); k_here; (with_reducible show wpAny _ _ (eval (Expr.Call (Expr.Name (PySem.Str.ofString "_law_nearest") _) _ _ _) _) _ _ _); k_dflt (refine Call_ ?_))
  k_with "my eval Call" => ((fail_if_success (k_extra "off19")); k_here; (with_reducible show wpAny _ _ (eval (Expr.Call (Expr.Name (PySem.Str.ofString "_law_real") _) _ _ _) _) _ _ _); k_dflt (refine Call_ ?_))
  k_with "my eval Call" => ((fail_if_success (k_extra "off19")); k_here; (with_reducible show wpAny _ _ (eval (Expr.Call (Expr.Name (PySem.Str.ofString "_law_whole") _) _ _ _) _) _ _ _); k_dflt (refine Call_ ?_))
  k_with "my eval Call" => ((fail_if_success (k_extra "off19")); k_here; (with_reducible show wpAny _ _ (eval (Expr.Call (Expr.Name (PySem.Str.ofString "_law_lone") _) _ _ _) _) _ _ _); k_dflt (refine Call_ ?_))
  k_with "my eval Call" => ((fail_if_success (k_extra "off19")); k_here; (with_reducible show wpAny _ _ (eval (Expr.Call (Expr.Name (PySem.Str.ofString "_law_pair") _) _ _ _) _) _ _ _); k_dflt (refine Call_ ?_))
  k_with "my eval Call" => ((fail_if_success (k_extra "off19")); k_here; (with_reducible show wpAny _ _ (eval (Expr.Call (Expr.Name (PySem.Str.ofString "_law_draw") _) _ _ _) _) _ _ _); k_dflt (refine Call_ ?_))
  k_with "my eval Call" => ((fail_if_success (k_extra "off19")); k_here; (with_reducible show wpAny _ _ (eval (Expr.Call (Expr.Name (PySem.Str.ofString "_law_operand") _) _ _ _) _) _ _ _); k_dflt (refine Call_ ?_))
  k_with "my eval Call" => ((fail_if_success (k_extra "off19")); k_here; (with_reducible show wpAny _ _ (eval (Expr.Call (Expr.Name (PySem.Str.ofString "_law_due") _) _ _ _) _) _ _ _); k_dflt (refine Call_ ?_))
  k_with "my eval Call" => ((fail_if_success (k_extra "off19")); k_here; (with_reducible show wpAny _ _ (eval (Expr.Call (Expr.Name (PySem.Str.ofString "_law_reals") _) _ _ _) _) _ _ _); k_dflt (refine Call_ ?_))
  k_with "my binaryOp Pow int int" => ((fail_if_success (k_extra "off19")); k_here; first | (with_reducible refine pw_10_21 ?_) | (with_reducible refine pw_10_6 ?_) | (with_reducible refine pw_2_31 ?_) | (with_reducible refine pw_2_32 ?_) | (with_reducible refine pw_2_40 ?_))
  k_with "my call ref" => ((fail_if_success (k_extra "off19")); k_here; (with_reducible show wpAny _ _ (call (Value.ref 861) [Value.int _ _]) _ _ _); k_dflt (refine' c_lreal (by k_asm) (by k_asm) (by k_asm) (by k_asm) (by first | exact rfl | assumption | fail) (by k_room) (by k_extra "units") (by k_asm)  ?_ ?_); intro b'_k t'_k h'_k tk'_k hr'_k F'_k N'_k; (try dsimp only); (try k_sweep); rotate_left; intro o'_k D'_k t1'_k t2'_k h'_k tk'_k hr'_k F'_k N'_k; (try dsimp only); (try k_sweep); rotate_left)
  k_with "my binaryOp Pow int int" => ((fail_if_success (k_extra "off19")); k_here; first | (with_reducible refine pw_10_21 ?_) | (with_reducible refine pw_10_6 ?_) | (with_reducible refine pw_2_31 ?_) | (with_reducible refine pw_2_32 ?_) | (with_reducible refine pw_2_40 ?_) | (with_reducible refine pw_10_12 ?_) | (with_reducible refine pw_2_39 ?_))
  k_with "my exec For Name Call cons nil" => ((fail_if_success (k_extra "off19")); k_here; (rename Fr _ _ _ _ => lF'_k); (with_unfolding_all refine' For_invVF lF'_k (by first | exact rfl | fail) (by first | exact rfl | fail) ?_; k_whole))
  k_with "my pyIter ref" => ((fail_if_success (k_extra "off19")); k_here; (rename IsRange _ _ _ _ _ _ _ _ => rgX_k); (have lN8_k := lenY (by assumption) (by assumption)); k_dflt (refine law_loop (n := 6) (by rfl) rgX_k (by first | decide | rfl) (by first | decide | rfl) (by k_asm) (by k_asm) (by decide) (fun I' hlt' k' t' m' it' i' ti' nT' h' tk' hit' b0' F' N' => ?_) (fun m' h' tk' F' => ?_)); (try dsimp only))
  k_with "my call ref" => ((fail_if_success (k_extra "off19")); k_here; (with_reducible show wpAny _ _ (call (Value.ref 833) _) _ _ _); k_dflt (refine' c_drawW (by k_asm) (by k_asm) (by k_asm) (by k_asm) (by first | exact rfl | assumption | fail) (by k_room) (by k_extra "units") (by k_asm) (by walk_at "my_wo") (by k_mem) (by assumption) (by assumption) (by assumption) (by first | decide | omega | fail) (by first | decide | omega | fail) (by k_all) ?_); intro v'_k t'_k i'_k ti'_k n'_k h'_k tk'_k b1'_k b2'_k b3'_k T'_k F'_k N'_k; (try dsimp only); (try k_sweep))
  k_with "my call ref" => ((fail_if_success (k_extra "off19")); k_here; (with_reducible show wpAny _ _ (call (Value.ref 840) _) _ _ _); k_dflt (refine' c_operandW (by k_asm) (by k_asm) (by k_asm) (by k_asm) (by first | exact rfl | assumption | fail) (by k_room) (by k_extra "units") (by k_asm) (by walk_at "my_wo") (by k_mem) (by assumption) (by assumption) (by assumption) (by k_all) ?_); intro D'_k o'_k t1'_k t2'_k i'_k ti'_k n'_k h'_k tk'_k hk'_k b3'_k l1'_k T'_k F'_k N'_k; (try simp only [AllLt, and_true] at l1'_k); (try dsimp only); (try k_sweep))
  k_with "my subscriptTail" => ((fail_if_success (k_extra "off19")); k_here; (with_reducible show wpAny _ _ (subscriptTail _ _ (Value.ref 818) (Value.int _ _)) _ _ _); k_dflt (refine' item_word (l := lawWords) (by first | exact kun_topT (by k_asm) (by k_asm) (by k_is) | fail) rfl lawWords_ok (by assumption) (by assumption) ?_ (by first | with_unfolding_all rfl | fail)); intro c'_k x'_k; (try dsimp only))
  k_with "my subscriptTail Name" => ((fail_if_success (k_extra "off19")); k_here; (with_reducible show wpAny _ _ (subscriptTail _ _ (Value.ref 818) (Value.int _ _)) _ _ _); k_dflt (refine' item_word (l := lawWords) (by first | exact kun_topT (by k_asm) (by k_asm) (by k_is) | fail) rfl lawWords_ok (by assumption) (by assumption) ?_ (by first | with_unfolding_all rfl | fail)); intro c'_k x'_k; (try dsimp only))
  k_with "my subscriptTail Subscript" => ((fail_if_success (k_extra "off19")); k_here; (with_reducible show wpAny _ _ (subscriptTail _ _ (Value.ref 818) (Value.int _ _)) _ _ _); k_dflt (refine' item_word (l := lawWords) (by first | exact kun_topT (by k_asm) (by k_asm) (by k_is) | fail) rfl lawWords_ok (by assumption) (by assumption) ?_ (by first | with_unfolding_all rfl | fail)); intro c'_k x'_k; (try dsimp only))
  k_with "my compareOp Eq int int" => ((fail_if_success (k_extra "off19")); k_here; (with_reducible show wpAny _ _ (compareOp CmpOp.Eq (Value.int _ _) (Value.int 8 _)) _ _ _); k_dflt (refine eq8 ?_ ?_))
  k_with "my compareOp In str ref" => ((fail_if_success (k_extra "off19")); k_here; (with_reducible show wpAny _ _ (compareOp CmpOp.In (Value.str (Wd.str _) _) (Value.ref _)) _ _ _); (rename Wd => c9_k); (rcases un_cases c9_k with h9_k | h9_k) <;> (with_unfolding_all refine' in_b (by first | exact News.isTup (by k_asm) (by k_mem) | exact kun_topT (by k_asm) (by k_asm) (by k_is) | fail) (by first | kde_strs | fail) (by first | exact (un_any _).trans (by assumption) | fail) ?_; k_whole))
  k_with "my call ref" => ((fail_if_success (k_extra "off19")); k_here; (with_reducible show wpAny _ _ (call (Value.ref 878) _) _ _ _); k_dflt (refine' due_l1 (by k_asm) (by k_asm) (by k_asm) (by k_asm) (by first | exact rfl | assumption | fail) (by k_room) (by k_extra "units") (by k_asm) (by assumption) (by k_mem) ?_); intro b'_k t'_k h'_k tk'_k hb'_k F'_k N'_k; (subst hb'_k); (try dsimp only); (try k_sweep))
  k_with "my call ref" => ((fail_if_success (k_extra "off19")); k_here; (with_reducible show wpAny _ _ (call (Value.ref 878) _) _ _ _); k_dflt (refine' due_l2 (by k_asm) (by k_asm) (by k_asm) (by k_asm) (by first | exact rfl | assumption | fail) (by k_room) (by k_extra "units") (by k_asm) (by assumption) (by k_mem) ?_); intro b'_k t'_k h'_k tk'_k hb'_k F'_k N'_k; (subst hb'_k); (try dsimp only); (try k_sweep))
  k_with "my call ref" => ((fail_if_success (k_extra "off19")); k_here; (with_reducible show wpAny _ _ (call (Value.ref 878) _) _ _ _); k_dflt (refine' due_1 (by k_asm) (by k_asm) (by k_asm) (by k_asm) (by first | exact rfl | assumption | fail) (by k_room) (by k_extra "units") (by k_asm) (by assumption) (by k_mem) (by k_mem) (by assumption) ?_ ?_); intro b'_k t'_k h'_k tk'_k hr'_k F'_k N'_k; (have hm9_k := dueM1 (by assumption) hr'_k); (have hn9_k := nm1 hm9_k); (try dsimp only); (try k_sweep); rotate_left; intro o'_k D'_k t1'_k t2'_k h'_k tk'_k hr'_k F'_k N'_k; (have hm9_k := dueM1 (by assumption) hr'_k); (have hn9_k := ok1 (by assumption) hm9_k); (try dsimp only); (try k_sweep); rotate_left)
  k_with "my call ref" => ((fail_if_success (k_extra "off19")); k_here; (with_reducible show wpAny _ _ (call (Value.ref 878) _) _ _ _); k_dflt (refine' due_2 (by k_asm) (by k_asm) (by k_asm) (by k_asm) (by first | exact rfl | assumption | fail) (by k_room) (by k_extra "units") (by k_asm) (by assumption) (by k_mem) (by k_mem) (by k_mem) (by assumption) (by assumption) ?_ ?_); intro b'_k t'_k h'_k tk'_k hr'_k F'_k N'_k; (have hn9_k := nm2 hr'_k); (try dsimp only); (try k_sweep); rotate_left; intro o'_k D'_k t1'_k t2'_k h'_k tk'_k hr'_k F'_k N'_k; (have hn9_k := ok2 (by assumption) (by assumption) hr'_k); (try dsimp only); (try k_sweep); rotate_left)
  k_with "my call ref" => ((fail_if_success (k_extra "off19")); k_here; (with_reducible show wpAny _ _ (call (Value.ref 890) _) _ _ _); k_dflt (refine' lh_0 (by assumption) (by k_asm) (by k_asm) (by k_asm) (by k_asm) (by first | exact rfl | assumption | fail) (by assumption) (by assumption) (by k_room) (by k_extra "units") (by k_asm) (by k_mem) ?_); intro t'_k h'_k tk'_k F'_k N'_k; (try dsimp only))
  k_with "my call ref" => ((fail_if_success (k_extra "off19")); k_here; (with_reducible show wpAny _ _ (call (Value.ref 890) _) _ _ _); k_dflt (refine' lh_1 (by assumption) (by k_asm) (by k_asm) (by k_asm) (by k_asm) (by first | exact rfl | assumption | fail) (by assumption) (by assumption) (by k_room) (by k_extra "units") (by k_asm) (by k_mem) (by k_mem) ?_); intro t'_k h'_k tk'_k F'_k N'_k; (try dsimp only))
  k_with "my call ref" => ((fail_if_success (k_extra "off19")); k_here; (with_reducible show wpAny _ _ (call (Value.ref 890) _) _ _ _); k_dflt (refine' lh_3ok (x2 := 0) (by assumption) (by assumption) (by assumption) (by k_asm) (by k_asm) (by k_asm) (by k_asm) (by first | exact rfl | assumption | fail) (by assumption) (by assumption) (by k_room) (by k_extra "units") (by k_asm) (by k_mem) (by k_mem) (by k_mem) (by k_mem) ?_); intro R'_k Q1'_k Q2'_k Q3'_k ta'_k tb'_k tc'_k td'_k te'_k tf'_k n'_k h'_k tk'_k F'_k N'_k; (try dsimp only))
  k_with "my call ref" => ((fail_if_success (k_extra "off19")); k_here; (with_reducible show wpAny _ _ (call (Value.ref 890) _) _ _ _); k_dflt (refine' lh_3bad (x2 := 0) (by assumption) (by assumption) (by assumption) (by k_asm) (by k_asm) (by k_asm) (by k_asm) (by first | exact rfl | assumption | fail) (by assumption) (by assumption) (by k_room) (by k_extra "units") (by k_asm) (by k_mem) (by k_mem) (by k_mem) (by k_mem) ?_); intro t'_k h'_k tk'_k F'_k N'_k; (try dsimp only))
  k_with "my call ref" => ((fail_if_success (k_extra "off19")); k_here; (with_reducible show wpAny _ _ (call (Value.ref 890) _) _ _ _); k_dflt (refine' lh_4ok (x2 := 0) (by assumption) (by assumption) (by assumption) (by assumption) (by k_asm) (by k_asm) (by k_asm) (by k_asm) (by first | exact rfl | assumption | fail) (by assumption) (by assumption) (by k_room) (by k_extra "units") (by k_asm) (by k_mem) (by k_mem) (by k_mem) (by k_mem) (by k_mem) ?_); intro R'_k Q1'_k Q2'_k Q3'_k ta'_k tb'_k tc'_k td'_k te'_k tf'_k n'_k h'_k tk'_k F'_k N'_k; (try dsimp only))
  k_with "my call ref" => ((fail_if_success (k_extra "off19")); k_here; (with_reducible show wpAny _ _ (call (Value.ref 890) _) _ _ _); k_dflt (refine' lh_4bad (x2 := 0) (by assumption) (by assumption) (by assumption) (by assumption) (by k_asm) (by k_asm) (by k_asm) (by k_asm) (by first | exact rfl | assumption | fail) (by assumption) (by assumption) (by k_room) (by k_extra "units") (by k_asm) (by k_mem) (by k_mem) (by k_mem) (by k_mem) (by k_mem) ?_); intro t'_k h'_k tk'_k F'_k N'_k; (try dsimp only))
  k_with "my call builtin:repr" => ((fail_if_success (k_extra "off19")); k_here; k_dflt (first
  | (refine reprS ?_ ?_; (first | assumption | exact nmS rfl))
  | (refine' repr3 (a := .bool true) (b := .int 5) (t2 := 0) (by first | exact rfl | fail) (by k_extra "units") (by k_asm) (by k_asm) (by k_mem) (by k_mem) (by k_mem) (by k_mem) (by first | exact trivial | fail) (by first | (show fitsI 5; constructor <;> decide) | fail) (by assumption) ?_; intro h'_k u'_k tk'_k F'_k N'_k; (try dsimp only))))
  k_with "my compareOp NotEq str str" => ((fail_if_success (k_extra "off19")); k_here; k_dflt (refine neSame ?_))
  k_with "my CompEnd" => ((fail_if_success (k_extra "off19")); k_here; k_dflt (refine' CompEnd_opd (by k_asm) (by k_asm) (by assumption) (by k_mem) (by walk_at "my_subN") (by assumption) (by first | exact trivial | fail) ?_))
  k_with "my UnrEnd" => ((fail_if_success (k_extra "off19")); k_here; k_dflt (refine lawEnd (by assumption) (by k_asm) (by k_asm) (by k_mem) (by k_mem) (by k_mem) (by k_mem) (by assumption)))
  k_with "my k_all" => ((fail_if_success (k_extra "off19")); first | assumption | exact List.forall_mem_nil _ | (apply neC; (first | exact off1 (by assumption) (by k_mem) | exact off2 (by assumption) (by k_mem) | exact off3 (by assumption) (by k_mem) | k_ne); (k_all)))
  k_with "my my_wo" => ((fail_if_success (k_extra "off19")); first | exact Wo.head | (apply Wo.tail; walk_at "my_wo"))
  k_with "my my_subN" => ((fail_if_success (k_extra "off19")); first | exact List.forall_mem_nil _ | (refine List.forall_mem_cons.mpr ⟨by k_mem, ?_⟩; walk_at "my_subN"))
  k_with "my CompRest" => ((fail_if_success (k_extra "off19")); with_unfolding_all first
  | (refine LCg.CompRest.succ ?_; intro v'_k I'_k oI'_k C'_k oC'_k D'_k m'_k h'_k tk'_k E'_k hv'_k hC'_k hx'_k F'_k N'_k off'_k ne'_k; (obtain ⟨t9'_k, hv9'_k⟩ := hv'_k; subst hv9'_k))
  | refine LCg.CompRest.zero ?_)
  k_with "my CompSrc" => ((fail_if_success (k_extra "off19")); k_here; k_dflt (refine LCg.CompSrc.range (by rfl) (by k_asm) (by k_asm) (by assumption) (by first | decide | rfl) (by first | rfl | decide) (by first | size_fits | exact Nat.le_of_ble_eq_true rfl) ?_; intro g'_k; lcg_lit))
  k_with "my execs cons" => ((fail_if_success (k_extra "off19")); k_here; (try k_gentoks); (with_reducible refine wpAny_execs_cons ?_); k_fold)
  k_with "my call builtin:isinstance" => ((fail_if_success (k_extra "off19")); k_here; first | (with_reducible refine IsiPair.str_str ?_) | k_dflt (refine IsiPair.tuple_str (News.get (by k_asm) (by k_mem)) rfl ?_))
  w_on
  o_law
  o_head (kHook Kp Ka Ka_is)
  case hw => w_witness2
  k_go0
  (all_goals try k_fold)
  k_steps))
set_option Elab.async false

end
end
end Mine
theorem PySem.Challenge.cw_on0276_01_holds : PySem.Challenge.rw_on0276_01.Holds := by
  exact Mine.hd
