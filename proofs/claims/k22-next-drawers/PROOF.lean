import PyProof.Rows.All
import HandS.Exc
import Wide.All
import OpenK.AllK
import Wide.FinOn
import HandS.ForMost
import HandS.Walk
import HandS.Zip
import HandS.Flow
import HandS.IsInst
import HandS.Style
import HandS.TupAny
import HandS.TupMul
import HandS.Star
import HandS.Lambda
import PyProof.ListMulRoad
import PyProof.FactsAll.tuple_2
import PyProof.ReprRoads
import HandS.Zip0
import KE.GoesMore
import KE.GoesEnum
import HandS.Conv
import HandS.Dict
import HandS.RaiseMore
import HandS.Text
import HandS.SortInts
import HandS.SetFor
import PyProof.Rows.SetFrom
import HandS.Strs
import HandS.ExcCtx
import HandS.ExcInit
import HandS.TryOnly
import HandS.ExcOwn
import HandS.ExcField
import HandS.ExcIs
import HandS.WordsExc
import KE.KExcIs
import HandS.StrMore
import PyProof.StrOps2
import PyProof.FactsAll.list_0
import PyProof.FactsAll.list_3
import HandS.Property
import KE.KExcInit
import KE.KxField
import HandS.FStr
import PyProof.FString3
import KE.KCallOwn
import HandS.Hot
import HandS.HotCalls
import HandS.NoneIn
import HandS.Words
import PyProof.AutoIntOps
import HandS.TupSets
import KE.DataMinMax
import KE.SortData
import PyProof.RulesMatch
import KE.KStar
import HandS.Defaults
import HandS.GenList
import HandS.ClsMeth
import KE.KUnpack
import KE.KSuper
import HandS.Nested
import HandS.DictComp
import HandS.JoinGen
import HandS.Replace
import HandS.ReplaceLit
import KE.KDictKeyed
import HandS.EndTab
import KE.KNestM
import KE.HD2
import PySem.Challenge.RW_darkdrawers_k22_next_drawers
set_option Elab.async false
set_option linter.all false
set_option maxRecDepth 100000
set_option maxHeartbeats 4000000
namespace DD
open PySem PySem.W PySem.Calls PyProof.Rows HeadRun
/-! the head of the law, look by look -/
def hDown : List Nat → List Stmt → Option Stmt
  | [], _ => none
  | [i], l => l[i]?
  | i :: k, l => match l[i]? with
    | some (.FunctionDef _ _ b _ _ _ _ _ _ _) => hDown k b
    | some (.ClassDef _ _ _ b _ _ _ _ _ _ _) => hDown k b
    | _ => none
def hArgs (k : List Nat) : Arguments := match hDown k PySem.Challenge.pw_darkdrawers_k22_next_drawers.main.body with
  | some (.FunctionDef _ a _ _ _ _ _ _ _ _) => a
  | _ => ⟨[], [], none, [], [], none, []⟩
def hBody (k : List Nat) : List Stmt := match hDown k PySem.Challenge.pw_darkdrawers_k22_next_drawers.main.body with
  | some (.FunctionDef _ _ b _ _ _ _ _ _ _) => b
  | _ => []
def hScope (k : List Nat) : Scope := match hDown k PySem.Challenge.pw_darkdrawers_k22_next_drawers.main.body with
  | some (.FunctionDef _ _ _ _ _ _ sc _ _ _) => sc
  | _ => ⟨.function, [], false, false, []⟩
noncomputable def hK0 : Params → Frag := fun P =>
(⟨nat_lit 2, ⟨.none, .none , .dict #[] 0, #[]⟩⟩ ::
⟨nat_lit 3, ⟨.type "dict", .none , .dict #[⟨PySem.PyData.keyHash P (PySem.Str.ofString "__name__"), .str (PySem.Str.ofString "__name__") 165, .str (PySem.Str.ofString "law_darkdrawers_k22_next_drawers") 473⟩, ⟨PySem.PyData.keyHash P (PySem.Str.ofString "__doc__"), .str (PySem.Str.ofString "__doc__") 166, .none⟩, ⟨PySem.PyData.keyHash P (PySem.Str.ofString "__package__"), .str (PySem.Str.ofString "__package__") 167, .none⟩, ⟨PySem.PyData.keyHash P (PySem.Str.ofString "__loader__"), .str (PySem.Str.ofString "__loader__") 168, .builtin "__main__.__loader__#opaque"⟩, ⟨PySem.PyData.keyHash P (PySem.Str.ofString "__spec__"), .str (PySem.Str.ofString "__spec__") 169, .none⟩, ⟨PySem.PyData.keyHash P (PySem.Str.ofString "__annotations__"), .str (PySem.Str.ofString "__annotations__") 170, .ref 6⟩, ⟨PySem.PyData.keyHash P (PySem.Str.ofString "__builtins__"), .str (PySem.Str.ofString "__builtins__") 171, .ref 4⟩, ⟨PySem.PyData.keyHash P (PySem.Str.ofString "__file__"), .str (PySem.Str.ofString "__file__") 173, .str (PySem.Str.ofString "/claim/cut.py") 172⟩, ⟨PySem.PyData.keyHash P (PySem.Str.ofString "__cached__"), .str (PySem.Str.ofString "__cached__") 174, .none⟩, ⟨PySem.PyData.keyHash P (PySem.Str.ofString "SMALL_THINGS"), .str (PySem.Str.ofString "SMALL_THINGS") 188, .int 14 187⟩, ⟨PySem.PyData.keyHash P (PySem.Str.ofString "DrawerError"), .str (PySem.Str.ofString "DrawerError") 208, .ref 24⟩, ⟨PySem.PyData.keyHash P (PySem.Str.ofString "TooLarge"), .str (PySem.Str.ofString "TooLarge") 233, .ref 44⟩, ⟨PySem.PyData.keyHash P (PySem.Str.ofString "TooMuch"), .str (PySem.Str.ofString "TooMuch") 258, .ref 63⟩, ⟨PySem.PyData.keyHash P (PySem.Str.ofString "TooFew"), .str (PySem.Str.ofString "TooFew") 283, .ref 82⟩, ⟨PySem.PyData.keyHash P (PySem.Str.ofString "BadWish"), .str (PySem.Str.ofString "BadWish") 308, .ref 101⟩, ⟨PySem.PyData.keyHash P (PySem.Str.ofString "BadPlan"), .str (PySem.Str.ofString "BadPlan") 333, .ref 120⟩, ⟨PySem.PyData.keyHash P (PySem.Str.ofString "TooFull"), .str (PySem.Str.ofString "TooFull") 358, .ref 139⟩, ⟨PySem.PyData.keyHash P (PySem.Str.ofString "totals_of"), .str (PySem.Str.ofString "totals_of") 366, .ref 146⟩, ⟨PySem.PyData.keyHash P (PySem.Str.ofString "sizes_of"), .str (PySem.Str.ofString "sizes_of") 372, .ref 151⟩, ⟨PySem.PyData.keyHash P (PySem.Str.ofString "contains"), .str (PySem.Str.ofString "contains") 380, .ref 156⟩, ⟨PySem.PyData.keyHash P (PySem.Str.ofString "fulfilled_by"), .str (PySem.Str.ofString "fulfilled_by") 390, .ref 163⟩, ⟨PySem.PyData.keyHash P (PySem.Str.ofString "added"), .str (PySem.Str.ofString "added") 398, .ref 168⟩, ⟨PySem.PyData.keyHash P (PySem.Str.ofString "without_thing"), .str (PySem.Str.ofString "without_thing") 409, .ref 175⟩, ⟨PySem.PyData.keyHash P (PySem.Str.ofString "Search"), .str (PySem.Str.ofString "Search") 459, .ref 207⟩, ⟨PySem.PyData.keyHash P (PySem.Str.ofString "need_few"), .str (PySem.Str.ofString "need_few") 466, .ref 218⟩, ⟨PySem.PyData.keyHash P (PySem.Str.ofString "next_drawer"), .str (PySem.Str.ofString "next_drawer") 472, .ref 223⟩, ⟨PySem.PyData.keyHash P (PySem.Str.ofString "_law_draws"), .str (PySem.Str.ofString "_law_draws") 480, .ref 228⟩, ⟨PySem.PyData.keyHash P (PySem.Str.ofString "_law_next"), .str (PySem.Str.ofString "_law_next") 495, .ref 235⟩, ⟨PySem.PyData.keyHash P (PySem.Str.ofString "_law_stock"), .str (PySem.Str.ofString "_law_stock") 501, .ref 240⟩, ⟨PySem.PyData.keyHash P (PySem.Str.ofString "_law_wished"), .str (PySem.Str.ofString "_law_wished") 507, .ref 245⟩, ⟨PySem.PyData.keyHash P (PySem.Str.ofString "_law_totals"), .str (PySem.Str.ofString "_law_totals") 513, .ref 250⟩, ⟨PySem.PyData.keyHash P (PySem.Str.ofString "_law_has"), .str (PySem.Str.ofString "_law_has") 519, .ref 255⟩, ⟨PySem.PyData.keyHash P (PySem.Str.ofString "_law_without"), .str (PySem.Str.ofString "_law_without") 529, .ref 262⟩, ⟨PySem.PyData.keyHash P (PySem.Str.ofString "_law_with"), .str (PySem.Str.ofString "_law_with") 537, .ref 269⟩, ⟨PySem.PyData.keyHash P (PySem.Str.ofString "_law_worst"), .str (PySem.Str.ofString "_law_worst") 552, .ref 276⟩, ⟨PySem.PyData.keyHash P (PySem.Str.ofString "_law_further"), .str (PySem.Str.ofString "_law_further") 558, .ref 281⟩, ⟨PySem.PyData.keyHash P (PySem.Str.ofString "_law_told"), .str (PySem.Str.ofString "_law_told") 567, .ref 288⟩, ⟨PySem.PyData.keyHash P (PySem.Str.ofString "_law_due"), .str (PySem.Str.ofString "_law_due") 573, .ref 293⟩, ⟨PySem.PyData.keyHash P (PySem.Str.ofString "law"), .str (PySem.Str.ofString "law") 579, .ref 298⟩] 39, #[]⟩⟩ ::
⟨nat_lit 15, ⟨.type "tuple", .none , .seq #[.type "ValueError"] 0, #[]⟩⟩ ::
⟨nat_lit 22, ⟨.type "tuple", .none , .seq #[] 0, #[]⟩⟩ ::
⟨nat_lit 23, ⟨.type "dict", .none , .dict #[⟨PySem.PyData.keyHash P (PySem.Str.ofString "__module__"), .str (PySem.Str.ofString "__module__") 198, .str (PySem.Str.ofString "darkdrawers.errors") 189⟩, ⟨PySem.PyData.keyHash P (PySem.Str.ofString "__firstlineno__"), .str (PySem.Str.ofString "__firstlineno__") 202, .int 3 201⟩, ⟨PySem.PyData.keyHash P (PySem.Str.ofString "__static_attributes__"), .str (PySem.Str.ofString "__static_attributes__") 203, .ref 22⟩, ⟨PySem.PyData.keyHash P (PySem.Str.ofString "__weakref__"), .str (PySem.Str.ofString "__weakref__") 205, .ref 25⟩, ⟨PySem.PyData.keyHash P (PySem.Str.ofString "__doc__"), .str (PySem.Str.ofString "__doc__") 206, .none⟩] 3, #[]⟩⟩ ::
⟨nat_lit 24, ⟨.type "type", .none , .cls ⟨PySem.Str.ofString "DrawerError", [.type "ValueError"], [.ref 24, .type "ValueError", .type "Exception", .type "BaseException", .type "object"], 23, PySem.Str.ofString "DrawerError", .true, [], [.ref 44, .ref 63, .ref 82, .ref 101, .ref 120, .ref 139], .false, .none , .false⟩, #[.some (.ref 15), .none , .some (.str (PySem.Str.ofString "DrawerError") 191), .some (.str (PySem.Str.ofString "DrawerError") 199), .some (.builtin "ValueError.__new__"), .some (.bool .true)]⟩⟩ ::
⟨nat_lit 25, ⟨.type "getset_descriptor", .none , .fields #[.str (PySem.Str.ofString "__weakref__") 204, .ref 24, .builtin "ExceptionGroup.__weakref__", .none], #[]⟩⟩ ::
⟨nat_lit 28, ⟨.type "tuple", .none , .seq #[.ref 24] 0, #[]⟩⟩ ::
⟨nat_lit 35, ⟨.type "tuple", .none , .seq #[] 0, #[]⟩⟩ ::
⟨nat_lit 37, ⟨.type "tuple", .none , .seq #[.str (PySem.Str.ofString "self") 224, .str (PySem.Str.ofString "bound") 225] 0, #[]⟩⟩ ::
⟨nat_lit 38, ⟨.type "tuple", .none , .seq #[] 0, #[]⟩⟩ ::
⟨nat_lit 40, ⟨.type "code", .none , .fields #[.str (PySem.Str.ofString "__init__") 221, .str (PySem.Str.ofString "TooLarge.__init__") 222, .str (PySem.Str.ofString "/claim/cut.py") 223, .int 7 0, .int 2 0, .int 0 0, .int 0 0, .int 3 0, .ref 35, .bool .true, .int 181 0, .ref 36, .none, .ref 37, .ref 38, .ref 39, .int 226 0, .int 7 0, .str (PySem.Str.ofString "/claim/cut.py") 227], #[]⟩⟩ ::
⟨nat_lit 41, ⟨.type "function", .none , .func ⟨PySem.Str.ofString "__init__", PySem.Str.ofString "TooLarge.__init__", hArgs [3, 0], .stmts (hBody [3, 0]), hScope [3, 0], 3, [], .none, .none, .none, .str (PySem.Str.ofString "darkdrawers.errors") 189, .none , .ref 40, .none, 0⟩, #[]⟩⟩ ::
⟨nat_lit 42, ⟨.type "tuple", .none , .seq #[.str (PySem.Str.ofString "bound") 229] 0, #[]⟩⟩ ::
⟨nat_lit 43, ⟨.type "dict", .none , .dict #[⟨PySem.PyData.keyHash P (PySem.Str.ofString "__module__"), .str (PySem.Str.ofString "__module__") 216, .str (PySem.Str.ofString "darkdrawers.errors") 189⟩, ⟨PySem.PyData.keyHash P (PySem.Str.ofString "__firstlineno__"), .str (PySem.Str.ofString "__firstlineno__") 220, .int 5 219⟩, ⟨PySem.PyData.keyHash P (PySem.Str.ofString "__init__"), .str (PySem.Str.ofString "__init__") 228, .ref 41⟩, ⟨PySem.PyData.keyHash P (PySem.Str.ofString "__static_attributes__"), .str (PySem.Str.ofString "__static_attributes__") 230, .ref 42⟩, ⟨PySem.PyData.keyHash P (PySem.Str.ofString "__doc__"), .str (PySem.Str.ofString "__doc__") 231, .none⟩] 2, #[]⟩⟩ ::
⟨nat_lit 44, ⟨.type "type", .none , .cls ⟨PySem.Str.ofString "TooLarge", [.ref 24], [.ref 44, .ref 24, .type "ValueError", .type "Exception", .type "BaseException", .type "object"], 43, PySem.Str.ofString "TooLarge", .true, [], [], .false, .none , .false⟩, #[.some (.ref 28), .none , .some (.str (PySem.Str.ofString "TooLarge") 209), .some (.str (PySem.Str.ofString "TooLarge") 217), .some (.builtin "ValueError.__new__"), .some (.bool .true)]⟩⟩ ::
⟨nat_lit 47, ⟨.type "tuple", .none , .seq #[.ref 24] 0, #[]⟩⟩ ::
⟨nat_lit 54, ⟨.type "tuple", .none , .seq #[] 0, #[]⟩⟩ ::
⟨nat_lit 56, ⟨.type "tuple", .none , .seq #[.str (PySem.Str.ofString "self") 249, .str (PySem.Str.ofString "total") 250] 0, #[]⟩⟩ ::
⟨nat_lit 57, ⟨.type "tuple", .none , .seq #[] 0, #[]⟩⟩ ::
⟨nat_lit 59, ⟨.type "code", .none , .fields #[.str (PySem.Str.ofString "__init__") 246, .str (PySem.Str.ofString "TooMuch.__init__") 247, .str (PySem.Str.ofString "/claim/cut.py") 248, .int 11 0, .int 2 0, .int 0 0, .int 0 0, .int 3 0, .ref 54, .bool .true, .int 181 0, .ref 55, .none, .ref 56, .ref 57, .ref 58, .int 251 0, .int 11 0, .str (PySem.Str.ofString "/claim/cut.py") 252], #[]⟩⟩ ::
⟨nat_lit 60, ⟨.type "function", .none , .func ⟨PySem.Str.ofString "__init__", PySem.Str.ofString "TooMuch.__init__", hArgs [4, 0], .stmts (hBody [4, 0]), hScope [4, 0], 3, [], .none, .none, .none, .str (PySem.Str.ofString "darkdrawers.errors") 189, .none , .ref 59, .none, 0⟩, #[]⟩⟩ ::
⟨nat_lit 61, ⟨.type "tuple", .none , .seq #[.str (PySem.Str.ofString "total") 254] 0, #[]⟩⟩ ::
⟨nat_lit 62, ⟨.type "dict", .none , .dict #[⟨PySem.PyData.keyHash P (PySem.Str.ofString "__module__"), .str (PySem.Str.ofString "__module__") 241, .str (PySem.Str.ofString "darkdrawers.errors") 189⟩, ⟨PySem.PyData.keyHash P (PySem.Str.ofString "__firstlineno__"), .str (PySem.Str.ofString "__firstlineno__") 245, .int 9 244⟩, ⟨PySem.PyData.keyHash P (PySem.Str.ofString "__init__"), .str (PySem.Str.ofString "__init__") 253, .ref 60⟩, ⟨PySem.PyData.keyHash P (PySem.Str.ofString "__static_attributes__"), .str (PySem.Str.ofString "__static_attributes__") 255, .ref 61⟩, ⟨PySem.PyData.keyHash P (PySem.Str.ofString "__doc__"), .str (PySem.Str.ofString "__doc__") 256, .none⟩] 2, #[]⟩⟩ ::
⟨nat_lit 63, ⟨.type "type", .none , .cls ⟨PySem.Str.ofString "TooMuch", [.ref 24], [.ref 63, .ref 24, .type "ValueError", .type "Exception", .type "BaseException", .type "object"], 62, PySem.Str.ofString "TooMuch", .true, [], [], .false, .none , .false⟩, #[.some (.ref 47), .none , .some (.str (PySem.Str.ofString "TooMuch") 234), .some (.str (PySem.Str.ofString "TooMuch") 242), .some (.builtin "ValueError.__new__"), .some (.bool .true)]⟩⟩ ::
⟨nat_lit 66, ⟨.type "tuple", .none , .seq #[.ref 24] 0, #[]⟩⟩ ::
⟨nat_lit 73, ⟨.type "tuple", .none , .seq #[] 0, #[]⟩⟩ ::
⟨nat_lit 75, ⟨.type "tuple", .none , .seq #[.str (PySem.Str.ofString "self") 274, .str (PySem.Str.ofString "kind") 275] 0, #[]⟩⟩ ::
⟨nat_lit 76, ⟨.type "tuple", .none , .seq #[] 0, #[]⟩⟩ ::
⟨nat_lit 78, ⟨.type "code", .none , .fields #[.str (PySem.Str.ofString "__init__") 271, .str (PySem.Str.ofString "TooFew.__init__") 272, .str (PySem.Str.ofString "/claim/cut.py") 273, .int 15 0, .int 2 0, .int 0 0, .int 0 0, .int 3 0, .ref 73, .bool .true, .int 181 0, .ref 74, .none, .ref 75, .ref 76, .ref 77, .int 276 0, .int 15 0, .str (PySem.Str.ofString "/claim/cut.py") 277], #[]⟩⟩ ::
⟨nat_lit 79, ⟨.type "function", .none , .func ⟨PySem.Str.ofString "__init__", PySem.Str.ofString "TooFew.__init__", hArgs [5, 0], .stmts (hBody [5, 0]), hScope [5, 0], 3, [], .none, .none, .none, .str (PySem.Str.ofString "darkdrawers.errors") 189, .none , .ref 78, .none, 0⟩, #[]⟩⟩ ::
⟨nat_lit 80, ⟨.type "tuple", .none , .seq #[.str (PySem.Str.ofString "kind") 279] 0, #[]⟩⟩ ::
⟨nat_lit 81, ⟨.type "dict", .none , .dict #[⟨PySem.PyData.keyHash P (PySem.Str.ofString "__module__"), .str (PySem.Str.ofString "__module__") 266, .str (PySem.Str.ofString "darkdrawers.errors") 189⟩, ⟨PySem.PyData.keyHash P (PySem.Str.ofString "__firstlineno__"), .str (PySem.Str.ofString "__firstlineno__") 270, .int 13 269⟩, ⟨PySem.PyData.keyHash P (PySem.Str.ofString "__init__"), .str (PySem.Str.ofString "__init__") 278, .ref 79⟩, ⟨PySem.PyData.keyHash P (PySem.Str.ofString "__static_attributes__"), .str (PySem.Str.ofString "__static_attributes__") 280, .ref 80⟩, ⟨PySem.PyData.keyHash P (PySem.Str.ofString "__doc__"), .str (PySem.Str.ofString "__doc__") 281, .none⟩] 2, #[]⟩⟩ ::
⟨nat_lit 82, ⟨.type "type", .none , .cls ⟨PySem.Str.ofString "TooFew", [.ref 24], [.ref 82, .ref 24, .type "ValueError", .type "Exception", .type "BaseException", .type "object"], 81, PySem.Str.ofString "TooFew", .true, [], [], .false, .none , .false⟩, #[.some (.ref 66), .none , .some (.str (PySem.Str.ofString "TooFew") 259), .some (.str (PySem.Str.ofString "TooFew") 267), .some (.builtin "ValueError.__new__"), .some (.bool .true)]⟩⟩ ::
⟨nat_lit 85, ⟨.type "tuple", .none , .seq #[.ref 24] 0, #[]⟩⟩ ::
⟨nat_lit 92, ⟨.type "tuple", .none , .seq #[] 0, #[]⟩⟩ ::
⟨nat_lit 94, ⟨.type "tuple", .none , .seq #[.str (PySem.Str.ofString "self") 299, .str (PySem.Str.ofString "value") 300] 0, #[]⟩⟩ ::
⟨nat_lit 95, ⟨.type "tuple", .none , .seq #[] 0, #[]⟩⟩ ::
⟨nat_lit 97, ⟨.type "code", .none , .fields #[.str (PySem.Str.ofString "__init__") 296, .str (PySem.Str.ofString "BadWish.__init__") 297, .str (PySem.Str.ofString "/claim/cut.py") 298, .int 19 0, .int 2 0, .int 0 0, .int 0 0, .int 3 0, .ref 92, .bool .true, .int 181 0, .ref 93, .none, .ref 94, .ref 95, .ref 96, .int 301 0, .int 19 0, .str (PySem.Str.ofString "/claim/cut.py") 302], #[]⟩⟩ ::
⟨nat_lit 98, ⟨.type "function", .none , .func ⟨PySem.Str.ofString "__init__", PySem.Str.ofString "BadWish.__init__", hArgs [6, 0], .stmts (hBody [6, 0]), hScope [6, 0], 3, [], .none, .none, .none, .str (PySem.Str.ofString "darkdrawers.errors") 189, .none , .ref 97, .none, 0⟩, #[]⟩⟩ ::
⟨nat_lit 99, ⟨.type "tuple", .none , .seq #[.str (PySem.Str.ofString "value") 304] 0, #[]⟩⟩ ::
⟨nat_lit 100, ⟨.type "dict", .none , .dict #[⟨PySem.PyData.keyHash P (PySem.Str.ofString "__module__"), .str (PySem.Str.ofString "__module__") 291, .str (PySem.Str.ofString "darkdrawers.errors") 189⟩, ⟨PySem.PyData.keyHash P (PySem.Str.ofString "__firstlineno__"), .str (PySem.Str.ofString "__firstlineno__") 295, .int 17 294⟩, ⟨PySem.PyData.keyHash P (PySem.Str.ofString "__init__"), .str (PySem.Str.ofString "__init__") 303, .ref 98⟩, ⟨PySem.PyData.keyHash P (PySem.Str.ofString "__static_attributes__"), .str (PySem.Str.ofString "__static_attributes__") 305, .ref 99⟩, ⟨PySem.PyData.keyHash P (PySem.Str.ofString "__doc__"), .str (PySem.Str.ofString "__doc__") 306, .none⟩] 2, #[]⟩⟩ ::
⟨nat_lit 101, ⟨.type "type", .none , .cls ⟨PySem.Str.ofString "BadWish", [.ref 24], [.ref 101, .ref 24, .type "ValueError", .type "Exception", .type "BaseException", .type "object"], 100, PySem.Str.ofString "BadWish", .true, [], [], .false, .none , .false⟩, #[.some (.ref 85), .none , .some (.str (PySem.Str.ofString "BadWish") 284), .some (.str (PySem.Str.ofString "BadWish") 292), .some (.builtin "ValueError.__new__"), .some (.bool .true)]⟩⟩ ::
⟨nat_lit 104, ⟨.type "tuple", .none , .seq #[.ref 24] 0, #[]⟩⟩ ::
⟨nat_lit 111, ⟨.type "tuple", .none , .seq #[] 0, #[]⟩⟩ ::
⟨nat_lit 113, ⟨.type "tuple", .none , .seq #[.str (PySem.Str.ofString "self") 324, .str (PySem.Str.ofString "value") 325] 0, #[]⟩⟩ ::
⟨nat_lit 114, ⟨.type "tuple", .none , .seq #[] 0, #[]⟩⟩ ::
⟨nat_lit 116, ⟨.type "code", .none , .fields #[.str (PySem.Str.ofString "__init__") 321, .str (PySem.Str.ofString "BadPlan.__init__") 322, .str (PySem.Str.ofString "/claim/cut.py") 323, .int 23 0, .int 2 0, .int 0 0, .int 0 0, .int 3 0, .ref 111, .bool .true, .int 181 0, .ref 112, .none, .ref 113, .ref 114, .ref 115, .int 326 0, .int 23 0, .str (PySem.Str.ofString "/claim/cut.py") 327], #[]⟩⟩ ::
⟨nat_lit 117, ⟨.type "function", .none , .func ⟨PySem.Str.ofString "__init__", PySem.Str.ofString "BadPlan.__init__", hArgs [7, 0], .stmts (hBody [7, 0]), hScope [7, 0], 3, [], .none, .none, .none, .str (PySem.Str.ofString "darkdrawers.errors") 189, .none , .ref 116, .none, 0⟩, #[]⟩⟩ ::
⟨nat_lit 118, ⟨.type "tuple", .none , .seq #[.str (PySem.Str.ofString "value") 329] 0, #[]⟩⟩ ::
⟨nat_lit 119, ⟨.type "dict", .none , .dict #[⟨PySem.PyData.keyHash P (PySem.Str.ofString "__module__"), .str (PySem.Str.ofString "__module__") 316, .str (PySem.Str.ofString "darkdrawers.errors") 189⟩, ⟨PySem.PyData.keyHash P (PySem.Str.ofString "__firstlineno__"), .str (PySem.Str.ofString "__firstlineno__") 320, .int 21 319⟩, ⟨PySem.PyData.keyHash P (PySem.Str.ofString "__init__"), .str (PySem.Str.ofString "__init__") 328, .ref 117⟩, ⟨PySem.PyData.keyHash P (PySem.Str.ofString "__static_attributes__"), .str (PySem.Str.ofString "__static_attributes__") 330, .ref 118⟩, ⟨PySem.PyData.keyHash P (PySem.Str.ofString "__doc__"), .str (PySem.Str.ofString "__doc__") 331, .none⟩] 2, #[]⟩⟩ ::
⟨nat_lit 120, ⟨.type "type", .none , .cls ⟨PySem.Str.ofString "BadPlan", [.ref 24], [.ref 120, .ref 24, .type "ValueError", .type "Exception", .type "BaseException", .type "object"], 119, PySem.Str.ofString "BadPlan", .true, [], [], .false, .none , .false⟩, #[.some (.ref 104), .none , .some (.str (PySem.Str.ofString "BadPlan") 309), .some (.str (PySem.Str.ofString "BadPlan") 317), .some (.builtin "ValueError.__new__"), .some (.bool .true)]⟩⟩ ::
⟨nat_lit 123, ⟨.type "tuple", .none , .seq #[.ref 24] 0, #[]⟩⟩ ::
⟨nat_lit 130, ⟨.type "tuple", .none , .seq #[] 0, #[]⟩⟩ ::
⟨nat_lit 132, ⟨.type "tuple", .none , .seq #[.str (PySem.Str.ofString "self") 349, .str (PySem.Str.ofString "number") 350] 0, #[]⟩⟩ ::
⟨nat_lit 133, ⟨.type "tuple", .none , .seq #[] 0, #[]⟩⟩ ::
⟨nat_lit 135, ⟨.type "code", .none , .fields #[.str (PySem.Str.ofString "__init__") 346, .str (PySem.Str.ofString "TooFull.__init__") 347, .str (PySem.Str.ofString "/claim/cut.py") 348, .int 27 0, .int 2 0, .int 0 0, .int 0 0, .int 3 0, .ref 130, .bool .true, .int 181 0, .ref 131, .none, .ref 132, .ref 133, .ref 134, .int 351 0, .int 27 0, .str (PySem.Str.ofString "/claim/cut.py") 352], #[]⟩⟩ ::
⟨nat_lit 136, ⟨.type "function", .none , .func ⟨PySem.Str.ofString "__init__", PySem.Str.ofString "TooFull.__init__", hArgs [8, 0], .stmts (hBody [8, 0]), hScope [8, 0], 3, [], .none, .none, .none, .str (PySem.Str.ofString "darkdrawers.errors") 189, .none , .ref 135, .none, 0⟩, #[]⟩⟩ ::
⟨nat_lit 137, ⟨.type "tuple", .none , .seq #[.str (PySem.Str.ofString "number") 354] 0, #[]⟩⟩ ::
⟨nat_lit 138, ⟨.type "dict", .none , .dict #[⟨PySem.PyData.keyHash P (PySem.Str.ofString "__module__"), .str (PySem.Str.ofString "__module__") 341, .str (PySem.Str.ofString "darkdrawers.errors") 189⟩, ⟨PySem.PyData.keyHash P (PySem.Str.ofString "__firstlineno__"), .str (PySem.Str.ofString "__firstlineno__") 345, .int 25 344⟩, ⟨PySem.PyData.keyHash P (PySem.Str.ofString "__init__"), .str (PySem.Str.ofString "__init__") 353, .ref 136⟩, ⟨PySem.PyData.keyHash P (PySem.Str.ofString "__static_attributes__"), .str (PySem.Str.ofString "__static_attributes__") 355, .ref 137⟩, ⟨PySem.PyData.keyHash P (PySem.Str.ofString "__doc__"), .str (PySem.Str.ofString "__doc__") 356, .none⟩] 2, #[]⟩⟩ ::
⟨nat_lit 139, ⟨.type "type", .none , .cls ⟨PySem.Str.ofString "TooFull", [.ref 24], [.ref 139, .ref 24, .type "ValueError", .type "Exception", .type "BaseException", .type "object"], 138, PySem.Str.ofString "TooFull", .true, [], [], .false, .none , .false⟩, #[.some (.ref 123), .none , .some (.str (PySem.Str.ofString "TooFull") 334), .some (.str (PySem.Str.ofString "TooFull") 342), .some (.builtin "ValueError.__new__"), .some (.bool .true)]⟩⟩ ::
⟨nat_lit 142, ⟨.type "tuple", .none , .seq #[] 0, #[]⟩⟩ ::
⟨nat_lit 145, ⟨.type "code", .none , .fields #[.str (PySem.Str.ofString "totals_of") 361, .str (PySem.Str.ofString "totals_of") 362, .str (PySem.Str.ofString "/claim/cut.py") 363, .int 30 0, .int 1 0, .int 0 0, .int 0 0, .int 3 0, .ref 142, .bool .true, .int 181 0, .ref 143, .none, .none, .none, .ref 144, .int 364 0, .int 30 0, .str (PySem.Str.ofString "/claim/cut.py") 365], #[]⟩⟩ ::
⟨nat_lit 146, ⟨.type "function", .none , .func ⟨PySem.Str.ofString "totals_of", PySem.Str.ofString "totals_of", hArgs [10], .stmts (hBody [10]), hScope [10], 3, [], .none, .none, .none, .str (PySem.Str.ofString "darkdrawers.stocks") 359, .none , .ref 145, .none, 0⟩, #[]⟩⟩ ::
⟨nat_lit 147, ⟨.type "tuple", .none , .seq #[] 0, #[]⟩⟩ ::
⟨nat_lit 150, ⟨.type "code", .none , .fields #[.str (PySem.Str.ofString "sizes_of") 367, .str (PySem.Str.ofString "sizes_of") 368, .str (PySem.Str.ofString "/claim/cut.py") 369, .int 32 0, .int 1 0, .int 0 0, .int 0 0, .int 3 0, .ref 147, .bool .true, .int 181 0, .ref 148, .none, .none, .none, .ref 149, .int 370 0, .int 32 0, .str (PySem.Str.ofString "/claim/cut.py") 371], #[]⟩⟩ ::
⟨nat_lit 151, ⟨.type "function", .none , .func ⟨PySem.Str.ofString "sizes_of", PySem.Str.ofString "sizes_of", hArgs [11], .stmts (hBody [11]), hScope [11], 3, [], .none, .none, .none, .str (PySem.Str.ofString "darkdrawers.stocks") 359, .none , .ref 150, .none, 0⟩, #[]⟩⟩ ::
⟨nat_lit 152, ⟨.type "tuple", .none , .seq #[] 0, #[]⟩⟩ ::
⟨nat_lit 155, ⟨.type "code", .none , .fields #[.str (PySem.Str.ofString "contains") 375, .str (PySem.Str.ofString "contains") 376, .str (PySem.Str.ofString "/claim/cut.py") 377, .int 35 0, .int 2 0, .int 0 0, .int 0 0, .int 3 0, .ref 152, .bool .true, .int 181 0, .ref 153, .none, .none, .none, .ref 154, .int 378 0, .int 35 0, .str (PySem.Str.ofString "/claim/cut.py") 379], #[]⟩⟩ ::
⟨nat_lit 156, ⟨.type "function", .none , .func ⟨PySem.Str.ofString "contains", PySem.Str.ofString "contains", hArgs [13], .stmts (hBody [13]), hScope [13], 3, [], .none, .none, .none, .str (PySem.Str.ofString "darkdrawers.wishes") 373, .none , .ref 155, .none, 0⟩, #[]⟩⟩ ::
⟨nat_lit 157, ⟨.type "tuple", .none , .seq #[] 0, #[]⟩⟩ ::
⟨nat_lit 159, ⟨.type "tuple", .none , .seq #[.str (PySem.Str.ofString "collections") 384, .str (PySem.Str.ofString "counts") 385, .str (PySem.Str.ofString "index") 386, .str (PySem.Str.ofString "collection") 387] 0, #[]⟩⟩ ::
⟨nat_lit 160, ⟨.type "tuple", .none , .seq #[] 0, #[]⟩⟩ ::
⟨nat_lit 162, ⟨.type "code", .none , .fields #[.str (PySem.Str.ofString "fulfilled_by") 381, .str (PySem.Str.ofString "fulfilled_by") 382, .str (PySem.Str.ofString "/claim/cut.py") 383, .int 37 0, .int 2 0, .int 0 0, .int 0 0, .int 3 0, .ref 157, .bool .true, .int 181 0, .ref 158, .none, .ref 159, .ref 160, .ref 161, .int 388 0, .int 37 0, .str (PySem.Str.ofString "/claim/cut.py") 389], #[]⟩⟩ ::
⟨nat_lit 163, ⟨.type "function", .none , .func ⟨PySem.Str.ofString "fulfilled_by", PySem.Str.ofString "fulfilled_by", hArgs [14], .stmts (hBody [14]), hScope [14], 3, [], .none, .none, .none, .str (PySem.Str.ofString "darkdrawers.wishes") 373, .none , .ref 162, .none, 0⟩, #[]⟩⟩ ::
⟨nat_lit 164, ⟨.type "tuple", .none , .seq #[] 0, #[]⟩⟩ ::
⟨nat_lit 167, ⟨.type "code", .none , .fields #[.str (PySem.Str.ofString "added") 393, .str (PySem.Str.ofString "added") 394, .str (PySem.Str.ofString "/claim/cut.py") 395, .int 43 0, .int 2 0, .int 0 0, .int 0 0, .int 3 0, .ref 164, .bool .true, .int 181 0, .ref 165, .none, .none, .none, .ref 166, .int 396 0, .int 43 0, .str (PySem.Str.ofString "/claim/cut.py") 397], #[]⟩⟩ ::
⟨nat_lit 168, ⟨.type "function", .none , .func ⟨PySem.Str.ofString "added", PySem.Str.ofString "added", hArgs [16], .stmts (hBody [16]), hScope [16], 3, [], .none, .none, .none, .str (PySem.Str.ofString "darkdrawers.looking") 391, .none , .ref 167, .none, 0⟩, #[]⟩⟩ ::
⟨nat_lit 169, ⟨.type "tuple", .none , .seq #[] 0, #[]⟩⟩ ::
⟨nat_lit 171, ⟨.type "tuple", .none , .seq #[.str (PySem.Str.ofString "stock") 402, .str (PySem.Str.ofString "drawer") 403, .str (PySem.Str.ofString "kind") 404, .str (PySem.Str.ofString "counts") 405, .str (PySem.Str.ofString "less") 406] 0, #[]⟩⟩ ::
⟨nat_lit 172, ⟨.type "tuple", .none , .seq #[] 0, #[]⟩⟩ ::
⟨nat_lit 174, ⟨.type "code", .none , .fields #[.str (PySem.Str.ofString "without_thing") 399, .str (PySem.Str.ofString "without_thing") 400, .str (PySem.Str.ofString "/claim/cut.py") 401, .int 45 0, .int 3 0, .int 0 0, .int 0 0, .int 3 0, .ref 169, .bool .true, .int 181 0, .ref 170, .none, .ref 171, .ref 172, .ref 173, .int 407 0, .int 45 0, .str (PySem.Str.ofString "/claim/cut.py") 408], #[]⟩⟩ ::
⟨nat_lit 175, ⟨.type "function", .none , .func ⟨PySem.Str.ofString "without_thing", PySem.Str.ofString "without_thing", hArgs [17], .stmts (hBody [17]), hScope [17], 3, [], .none, .none, .none, .str (PySem.Str.ofString "darkdrawers.looking") 391, .none , .ref 174, .none, 0⟩, #[]⟩⟩ ::
⟨nat_lit 183, ⟨.type "tuple", .none , .seq #[] 0, #[]⟩⟩ ::
⟨nat_lit 185, ⟨.type "tuple", .none , .seq #[.str (PySem.Str.ofString "self") 425, .str (PySem.Str.ofString "collections") 426, .str (PySem.Str.ofString "totals") 427] 0, #[]⟩⟩ ::
⟨nat_lit 186, ⟨.type "tuple", .none , .seq #[] 0, #[]⟩⟩ ::
⟨nat_lit 188, ⟨.type "code", .none , .fields #[.str (PySem.Str.ofString "__init__") 422, .str (PySem.Str.ofString "Search.__init__") 423, .str (PySem.Str.ofString "/claim/cut.py") 424, .int 51 0, .int 3 0, .int 0 0, .int 0 0, .int 3 0, .ref 183, .bool .true, .int 181 0, .ref 184, .none, .ref 185, .ref 186, .ref 187, .int 428 0, .int 51 0, .str (PySem.Str.ofString "/claim/cut.py") 429], #[]⟩⟩ ::
⟨nat_lit 189, ⟨.type "function", .none , .func ⟨PySem.Str.ofString "__init__", PySem.Str.ofString "Search.__init__", hArgs [18, 0], .stmts (hBody [18, 0]), hScope [18, 0], 3, [], .none, .none, .none, .str (PySem.Str.ofString "darkdrawers.looking") 391, .none , .ref 188, .none, 0⟩, #[]⟩⟩ ::
⟨nat_lit 190, ⟨.type "tuple", .none , .seq #[] 0, #[]⟩⟩ ::
⟨nat_lit 193, ⟨.type "code", .none , .fields #[.str (PySem.Str.ofString "is_done") 431, .str (PySem.Str.ofString "Search.is_done") 432, .str (PySem.Str.ofString "/claim/cut.py") 433, .int 56 0, .int 2 0, .int 0 0, .int 0 0, .int 3 0, .ref 190, .bool .true, .int 181 0, .ref 191, .none, .none, .none, .ref 192, .int 434 0, .int 56 0, .str (PySem.Str.ofString "/claim/cut.py") 435], #[]⟩⟩ ::
⟨nat_lit 194, ⟨.type "function", .none , .func ⟨PySem.Str.ofString "is_done", PySem.Str.ofString "Search.is_done", hArgs [18, 1], .stmts (hBody [18, 1]), hScope [18, 1], 3, [], .none, .none, .none, .str (PySem.Str.ofString "darkdrawers.looking") 391, .none , .ref 193, .none, 0⟩, #[]⟩⟩ ::
⟨nat_lit 195, ⟨.type "tuple", .none , .seq #[] 0, #[]⟩⟩ ::
⟨nat_lit 198, ⟨.type "code", .none , .fields #[.str (PySem.Str.ofString "worst") 437, .str (PySem.Str.ofString "Search.worst") 438, .str (PySem.Str.ofString "/claim/cut.py") 439, .int 60 0, .int 3 0, .int 0 0, .int 0 0, .int 3 0, .ref 195, .bool .true, .int 181 0, .ref 196, .none, .none, .none, .ref 197, .int 440 0, .int 60 0, .str (PySem.Str.ofString "/claim/cut.py") 441], #[]⟩⟩ ::
⟨nat_lit 199, ⟨.type "function", .none , .func ⟨PySem.Str.ofString "worst", PySem.Str.ofString "Search.worst", hArgs [18, 2], .stmts (hBody [18, 2]), hScope [18, 2], 3, [], .none, .none, .none, .str (PySem.Str.ofString "darkdrawers.looking") 391, .none , .ref 198, .none, 0⟩, #[]⟩⟩ ::
⟨nat_lit 200, ⟨.type "tuple", .none , .seq #[] 0, #[]⟩⟩ ::
⟨nat_lit 203, ⟨.type "code", .none , .fields #[.str (PySem.Str.ofString "further") 443, .str (PySem.Str.ofString "Search.further") 444, .str (PySem.Str.ofString "/claim/cut.py") 445, .int 64 0, .int 2 0, .int 0 0, .int 0 0, .int 3 0, .ref 200, .bool .true, .int 181 0, .ref 201, .none, .none, .none, .ref 202, .int 446 0, .int 64 0, .str (PySem.Str.ofString "/claim/cut.py") 447], #[]⟩⟩ ::
⟨nat_lit 204, ⟨.type "function", .none , .func ⟨PySem.Str.ofString "further", PySem.Str.ofString "Search.further", hArgs [18, 3], .stmts (hBody [18, 3]), hScope [18, 3], 3, [], .none, .none, .none, .str (PySem.Str.ofString "darkdrawers.looking") 391, .none , .ref 203, .none, 0⟩, #[]⟩⟩ ::
⟨nat_lit 205, ⟨.type "tuple", .none , .seq #[.str (PySem.Str.ofString "known") 449, .str (PySem.Str.ofString "needs") 450, .str (PySem.Str.ofString "totals") 451] 0, #[]⟩⟩ ::
⟨nat_lit 206, ⟨.type "dict", .none , .dict #[⟨PySem.PyData.keyHash P (PySem.Str.ofString "__module__"), .str (PySem.Str.ofString "__module__") 417, .str (PySem.Str.ofString "darkdrawers.looking") 391⟩, ⟨PySem.PyData.keyHash P (PySem.Str.ofString "__firstlineno__"), .str (PySem.Str.ofString "__firstlineno__") 421, .int 49 420⟩, ⟨PySem.PyData.keyHash P (PySem.Str.ofString "__init__"), .str (PySem.Str.ofString "__init__") 430, .ref 189⟩, ⟨PySem.PyData.keyHash P (PySem.Str.ofString "is_done"), .str (PySem.Str.ofString "is_done") 436, .ref 194⟩, ⟨PySem.PyData.keyHash P (PySem.Str.ofString "worst"), .str (PySem.Str.ofString "worst") 442, .ref 199⟩, ⟨PySem.PyData.keyHash P (PySem.Str.ofString "further"), .str (PySem.Str.ofString "further") 448, .ref 204⟩, ⟨PySem.PyData.keyHash P (PySem.Str.ofString "__static_attributes__"), .str (PySem.Str.ofString "__static_attributes__") 452, .ref 205⟩, ⟨PySem.PyData.keyHash P (PySem.Str.ofString "__dict__"), .str (PySem.Str.ofString "__dict__") 454, .ref 208⟩, ⟨PySem.PyData.keyHash P (PySem.Str.ofString "__weakref__"), .str (PySem.Str.ofString "__weakref__") 456, .ref 209⟩, ⟨PySem.PyData.keyHash P (PySem.Str.ofString "__doc__"), .str (PySem.Str.ofString "__doc__") 457, .none⟩] 4, #[]⟩⟩ ::
⟨nat_lit 207, ⟨.type "type", .none , .cls ⟨PySem.Str.ofString "Search", [.type "object"], [.ref 207, .type "object"], 206, PySem.Str.ofString "Search", .true, [], [], .false, .none , .false⟩, #[.none , .none , .some (.str (PySem.Str.ofString "Search") 410), .some (.str (PySem.Str.ofString "Search") 418), .some (.builtin "object.__new__"), .some (.bool .true)]⟩⟩ ::
⟨nat_lit 208, ⟨.type "getset_descriptor", .none , .fields #[.str (PySem.Str.ofString "__dict__") 453, .ref 207, .builtin "function.__dict__", .builtin "function.__dict__#set"], #[]⟩⟩ ::
⟨nat_lit 209, ⟨.type "getset_descriptor", .none , .fields #[.str (PySem.Str.ofString "__weakref__") 455, .ref 207, .builtin "ExceptionGroup.__weakref__", .none], #[]⟩⟩ ::
⟨nat_lit 212, ⟨.type "tuple", .none , .seq #[] 0, #[]⟩⟩ ::
⟨nat_lit 214, ⟨.type "tuple", .none , .seq #[.str (PySem.Str.ofString "stock") 463] 0, #[]⟩⟩ ::
⟨nat_lit 215, ⟨.type "tuple", .none , .seq #[] 0, #[]⟩⟩ ::
⟨nat_lit 217, ⟨.type "code", .none , .fields #[.str (PySem.Str.ofString "need_few") 460, .str (PySem.Str.ofString "need_few") 461, .str (PySem.Str.ofString "/claim/cut.py") 462, .int 69 0, .int 1 0, .int 0 0, .int 0 0, .int 3 0, .ref 212, .bool .true, .int 181 0, .ref 213, .none, .ref 214, .ref 215, .ref 216, .int 464 0, .int 69 0, .str (PySem.Str.ofString "/claim/cut.py") 465], #[]⟩⟩ ::
⟨nat_lit 218, ⟨.type "function", .none , .func ⟨PySem.Str.ofString "need_few", PySem.Str.ofString "need_few", hArgs [19], .stmts (hBody [19]), hScope [19], 3, [], .none, .none, .none, .str (PySem.Str.ofString "darkdrawers.looking") 391, .none , .ref 217, .none, 0⟩, #[]⟩⟩ ::
⟨nat_lit 219, ⟨.type "tuple", .none , .seq #[] 0, #[]⟩⟩ ::
⟨nat_lit 222, ⟨.type "code", .none , .fields #[.str (PySem.Str.ofString "next_drawer") 467, .str (PySem.Str.ofString "next_drawer") 468, .str (PySem.Str.ofString "/claim/cut.py") 469, .int 72 0, .int 3 0, .int 0 0, .int 0 0, .int 3 0, .ref 219, .bool .true, .int 181 0, .ref 220, .none, .none, .none, .ref 221, .int 470 0, .int 72 0, .str (PySem.Str.ofString "/claim/cut.py") 471], #[]⟩⟩ ::
⟨nat_lit 223, ⟨.type "function", .none , .func ⟨PySem.Str.ofString "next_drawer", PySem.Str.ofString "next_drawer", hArgs [20], .stmts (hBody [20]), hScope [20], 3, [], .none, .none, .none, .str (PySem.Str.ofString "darkdrawers.looking") 391, .none , .ref 222, .none, 0⟩, #[]⟩⟩ ::
⟨nat_lit 224, ⟨.type "tuple", .none , .seq #[] 0, #[]⟩⟩ ::
⟨nat_lit 227, ⟨.type "code", .none , .fields #[.str (PySem.Str.ofString "_law_draws") 475, .str (PySem.Str.ofString "_law_draws") 476, .str (PySem.Str.ofString "/claim/cut.py") 477, .int 81 0, .int 1 0, .int 0 0, .int 0 0, .int 3 0, .ref 224, .bool .true, .int 181 0, .ref 225, .none, .none, .none, .ref 226, .int 478 0, .int 81 0, .str (PySem.Str.ofString "/claim/cut.py") 479], #[]⟩⟩ ::
⟨nat_lit 228, ⟨.type "function", .none , .func ⟨PySem.Str.ofString "_law_draws", PySem.Str.ofString "_law_draws", hArgs [22], .stmts (hBody [22]), hScope [22], 3, [], .none, .none, .none, .str (PySem.Str.ofString "law_darkdrawers_k22_next_drawers") 473, .none , .ref 227, .none, 0⟩, #[]⟩⟩ ::
⟨nat_lit 229, ⟨.type "tuple", .none , .seq #[] 0, #[]⟩⟩ ::
⟨nat_lit 231, ⟨.type "tuple", .none , .seq #[.str (PySem.Str.ofString "_law_drawn") 484, .str (PySem.Str.ofString "_law_many") 485, .str (PySem.Str.ofString "_law_cells") 486, .str (PySem.Str.ofString "_law_nth") 487, .str (PySem.Str.ofString "_law_rests") 488, .str (PySem.Str.ofString "_law_spot") 489, .str (PySem.Str.ofString "_law_digit") 490, .str (PySem.Str.ofString "_law_mixed") 491, .str (PySem.Str.ofString "_law_more") 492] 0, #[]⟩⟩ ::
⟨nat_lit 232, ⟨.type "tuple", .none , .seq #[] 0, #[]⟩⟩ ::
⟨nat_lit 234, ⟨.type "code", .none , .fields #[.str (PySem.Str.ofString "_law_next") 481, .str (PySem.Str.ofString "_law_next") 482, .str (PySem.Str.ofString "/claim/cut.py") 483, .int 84 0, .int 2 0, .int 0 0, .int 0 0, .int 3 0, .ref 229, .bool .true, .int 181 0, .ref 230, .none, .ref 231, .ref 232, .ref 233, .int 493 0, .int 84 0, .str (PySem.Str.ofString "/claim/cut.py") 494], #[]⟩⟩ ::
⟨nat_lit 235, ⟨.type "function", .none , .func ⟨PySem.Str.ofString "_law_next", PySem.Str.ofString "_law_next", hArgs [23], .stmts (hBody [23]), hScope [23], 3, [], .none, .none, .none, .str (PySem.Str.ofString "law_darkdrawers_k22_next_drawers") 473, .none , .ref 234, .none, 0⟩, #[]⟩⟩ ::
⟨nat_lit 236, ⟨.type "tuple", .none , .seq #[] 0, #[]⟩⟩ ::
⟨nat_lit 239, ⟨.type "code", .none , .fields #[.str (PySem.Str.ofString "_law_stock") 496, .str (PySem.Str.ofString "_law_stock") 497, .str (PySem.Str.ofString "/claim/cut.py") 498, .int 95 0, .int 3 0, .int 0 0, .int 0 0, .int 3 0, .ref 236, .bool .true, .int 181 0, .ref 237, .none, .none, .none, .ref 238, .int 499 0, .int 95 0, .str (PySem.Str.ofString "/claim/cut.py") 500], #[]⟩⟩ ::
⟨nat_lit 240, ⟨.type "function", .none , .func ⟨PySem.Str.ofString "_law_stock", PySem.Str.ofString "_law_stock", hArgs [24], .stmts (hBody [24]), hScope [24], 3, [], .none, .none, .none, .str (PySem.Str.ofString "law_darkdrawers_k22_next_drawers") 473, .none , .ref 239, .none, 0⟩, #[]⟩⟩ ::
⟨nat_lit 241, ⟨.type "tuple", .none , .seq #[] 0, #[]⟩⟩ ::
⟨nat_lit 244, ⟨.type "code", .none , .fields #[.str (PySem.Str.ofString "_law_wished") 502, .str (PySem.Str.ofString "_law_wished") 503, .str (PySem.Str.ofString "/claim/cut.py") 504, .int 102 0, .int 3 0, .int 0 0, .int 0 0, .int 3 0, .ref 241, .bool .true, .int 181 0, .ref 242, .none, .none, .none, .ref 243, .int 505 0, .int 102 0, .str (PySem.Str.ofString "/claim/cut.py") 506], #[]⟩⟩ ::
⟨nat_lit 245, ⟨.type "function", .none , .func ⟨PySem.Str.ofString "_law_wished", PySem.Str.ofString "_law_wished", hArgs [25], .stmts (hBody [25]), hScope [25], 3, [], .none, .none, .none, .str (PySem.Str.ofString "law_darkdrawers_k22_next_drawers") 473, .none , .ref 244, .none, 0⟩, #[]⟩⟩ ::
⟨nat_lit 246, ⟨.type "tuple", .none , .seq #[] 0, #[]⟩⟩ ::
⟨nat_lit 249, ⟨.type "code", .none , .fields #[.str (PySem.Str.ofString "_law_totals") 508, .str (PySem.Str.ofString "_law_totals") 509, .str (PySem.Str.ofString "/claim/cut.py") 510, .int 110 0, .int 1 0, .int 0 0, .int 0 0, .int 3 0, .ref 246, .bool .true, .int 181 0, .ref 247, .none, .none, .none, .ref 248, .int 511 0, .int 110 0, .str (PySem.Str.ofString "/claim/cut.py") 512], #[]⟩⟩ ::
⟨nat_lit 250, ⟨.type "function", .none , .func ⟨PySem.Str.ofString "_law_totals", PySem.Str.ofString "_law_totals", hArgs [26], .stmts (hBody [26]), hScope [26], 3, [], .none, .none, .none, .str (PySem.Str.ofString "law_darkdrawers_k22_next_drawers") 473, .none , .ref 249, .none, 0⟩, #[]⟩⟩ ::
⟨nat_lit 251, ⟨.type "tuple", .none , .seq #[] 0, #[]⟩⟩ ::
⟨nat_lit 254, ⟨.type "code", .none , .fields #[.str (PySem.Str.ofString "_law_has") 514, .str (PySem.Str.ofString "_law_has") 515, .str (PySem.Str.ofString "/claim/cut.py") 516, .int 112 0, .int 2 0, .int 0 0, .int 0 0, .int 3 0, .ref 251, .bool .true, .int 181 0, .ref 252, .none, .none, .none, .ref 253, .int 517 0, .int 112 0, .str (PySem.Str.ofString "/claim/cut.py") 518], #[]⟩⟩ ::
⟨nat_lit 255, ⟨.type "function", .none , .func ⟨PySem.Str.ofString "_law_has", PySem.Str.ofString "_law_has", hArgs [27], .stmts (hBody [27]), hScope [27], 3, [], .none, .none, .none, .str (PySem.Str.ofString "law_darkdrawers_k22_next_drawers") 473, .none , .ref 254, .none, 0⟩, #[]⟩⟩ ::
⟨nat_lit 256, ⟨.type "tuple", .none , .seq #[] 0, #[]⟩⟩ ::
⟨nat_lit 258, ⟨.type "tuple", .none , .seq #[.str (PySem.Str.ofString "_law_stock_here") 523, .str (PySem.Str.ofString "_law_at") 524, .str (PySem.Str.ofString "_law_kind") 525, .str (PySem.Str.ofString "_law_row") 526] 0, #[]⟩⟩ ::
⟨nat_lit 259, ⟨.type "tuple", .none , .seq #[] 0, #[]⟩⟩ ::
⟨nat_lit 261, ⟨.type "code", .none , .fields #[.str (PySem.Str.ofString "_law_without") 520, .str (PySem.Str.ofString "_law_without") 521, .str (PySem.Str.ofString "/claim/cut.py") 522, .int 117 0, .int 3 0, .int 0 0, .int 0 0, .int 3 0, .ref 256, .bool .true, .int 181 0, .ref 257, .none, .ref 258, .ref 259, .ref 260, .int 527 0, .int 117 0, .str (PySem.Str.ofString "/claim/cut.py") 528], #[]⟩⟩ ::
⟨nat_lit 262, ⟨.type "function", .none , .func ⟨PySem.Str.ofString "_law_without", PySem.Str.ofString "_law_without", hArgs [28], .stmts (hBody [28]), hScope [28], 3, [], .none, .none, .none, .str (PySem.Str.ofString "law_darkdrawers_k22_next_drawers") 473, .none , .ref 261, .none, 0⟩, #[]⟩⟩ ::
⟨nat_lit 263, ⟨.type "tuple", .none , .seq #[] 0, #[]⟩⟩ ::
⟨nat_lit 265, ⟨.type "tuple", .none , .seq #[.str (PySem.Str.ofString "_law_counts") 533, .str (PySem.Str.ofString "_law_kind") 534] 0, #[]⟩⟩ ::
⟨nat_lit 266, ⟨.type "tuple", .none , .seq #[] 0, #[]⟩⟩ ::
⟨nat_lit 268, ⟨.type "code", .none , .fields #[.str (PySem.Str.ofString "_law_with") 530, .str (PySem.Str.ofString "_law_with") 531, .str (PySem.Str.ofString "/claim/cut.py") 532, .int 120 0, .int 2 0, .int 0 0, .int 0 0, .int 3 0, .ref 263, .bool .true, .int 181 0, .ref 264, .none, .ref 265, .ref 266, .ref 267, .int 535 0, .int 120 0, .str (PySem.Str.ofString "/claim/cut.py") 536], #[]⟩⟩ ::
⟨nat_lit 269, ⟨.type "function", .none , .func ⟨PySem.Str.ofString "_law_with", PySem.Str.ofString "_law_with", hArgs [29], .stmts (hBody [29]), hScope [29], 3, [], .none, .none, .none, .str (PySem.Str.ofString "law_darkdrawers_k22_next_drawers") 473, .none , .ref 268, .none, 0⟩, #[]⟩⟩ ::
⟨nat_lit 270, ⟨.type "tuple", .none , .seq #[] 0, #[]⟩⟩ ::
⟨nat_lit 272, ⟨.type "tuple", .none , .seq #[.str (PySem.Str.ofString "_law_known") 541, .str (PySem.Str.ofString "_law_stock_here") 542, .str (PySem.Str.ofString "_law_collections") 543, .str (PySem.Str.ofString "_law_counts") 544, .str (PySem.Str.ofString "_law_at") 545, .str (PySem.Str.ofString "_law_found") 546, .str (PySem.Str.ofString "_law_kind") 547, .str (PySem.Str.ofString "_law_less") 548, .str (PySem.Str.ofString "_law_more") 549] 0, #[]⟩⟩ ::
⟨nat_lit 273, ⟨.type "tuple", .none , .seq #[] 0, #[]⟩⟩ ::
⟨nat_lit 275, ⟨.type "code", .none , .fields #[.str (PySem.Str.ofString "_law_worst") 538, .str (PySem.Str.ofString "_law_worst") 539, .str (PySem.Str.ofString "/claim/cut.py") 540, .int 122 0, .int 5 0, .int 0 0, .int 0 0, .int 3 0, .ref 270, .bool .true, .int 181 0, .ref 271, .none, .ref 272, .ref 273, .ref 274, .int 550 0, .int 122 0, .str (PySem.Str.ofString "/claim/cut.py") 551], #[]⟩⟩ ::
⟨nat_lit 276, ⟨.type "function", .none , .func ⟨PySem.Str.ofString "_law_worst", PySem.Str.ofString "_law_worst", hArgs [30], .stmts (hBody [30]), hScope [30], 3, [], .none, .none, .none, .str (PySem.Str.ofString "law_darkdrawers_k22_next_drawers") 473, .none , .ref 275, .none, 0⟩, #[]⟩⟩ ::
⟨nat_lit 277, ⟨.type "tuple", .none , .seq #[] 0, #[]⟩⟩ ::
⟨nat_lit 280, ⟨.type "code", .none , .fields #[.str (PySem.Str.ofString "_law_further") 553, .str (PySem.Str.ofString "_law_further") 554, .str (PySem.Str.ofString "/claim/cut.py") 555, .int 129 0, .int 4 0, .int 0 0, .int 0 0, .int 3 0, .ref 277, .bool .true, .int 181 0, .ref 278, .none, .none, .none, .ref 279, .int 556 0, .int 129 0, .str (PySem.Str.ofString "/claim/cut.py") 557], #[]⟩⟩ ::
⟨nat_lit 281, ⟨.type "function", .none , .func ⟨PySem.Str.ofString "_law_further", PySem.Str.ofString "_law_further", hArgs [31], .stmts (hBody [31]), hScope [31], 3, [], .none, .none, .none, .str (PySem.Str.ofString "law_darkdrawers_k22_next_drawers") 473, .none , .ref 280, .none, 0⟩, #[]⟩⟩ ::
⟨nat_lit 282, ⟨.type "tuple", .none , .seq #[] 0, #[]⟩⟩ ::
⟨nat_lit 284, ⟨.type "tuple", .none , .seq #[.str (PySem.Str.ofString "_law_call") 562, .str (PySem.Str.ofString "e") 563, .str (PySem.Str.ofString "_law_is_other") 564] 0, #[]⟩⟩ ::
⟨nat_lit 285, ⟨.type "tuple", .none , .seq #[] 0, #[]⟩⟩ ::
⟨nat_lit 287, ⟨.type "code", .none , .fields #[.str (PySem.Str.ofString "_law_told") 559, .str (PySem.Str.ofString "_law_told") 560, .str (PySem.Str.ofString "/claim/cut.py") 561, .int 136 0, .int 1 0, .int 0 0, .int 0 0, .int 3 0, .ref 282, .bool .true, .int 181 0, .ref 283, .none, .ref 284, .ref 285, .ref 286, .int 565 0, .int 136 0, .str (PySem.Str.ofString "/claim/cut.py") 566], #[]⟩⟩ ::
⟨nat_lit 288, ⟨.type "function", .none , .func ⟨PySem.Str.ofString "_law_told", PySem.Str.ofString "_law_told", hArgs [32], .stmts (hBody [32]), hScope [32], 3, [], .none, .none, .none, .str (PySem.Str.ofString "law_darkdrawers_k22_next_drawers") 473, .none , .ref 287, .none, 0⟩, #[]⟩⟩ ::
⟨nat_lit 289, ⟨.type "tuple", .none , .seq #[] 0, #[]⟩⟩ ::
⟨nat_lit 292, ⟨.type "code", .none , .fields #[.str (PySem.Str.ofString "_law_due") 568, .str (PySem.Str.ofString "_law_due") 569, .str (PySem.Str.ofString "/claim/cut.py") 570, .int 144 0, .int 3 0, .int 0 0, .int 0 0, .int 3 0, .ref 289, .bool .true, .int 181 0, .ref 290, .none, .none, .none, .ref 291, .int 571 0, .int 144 0, .str (PySem.Str.ofString "/claim/cut.py") 572], #[]⟩⟩ ::
⟨nat_lit 293, ⟨.type "function", .none , .func ⟨PySem.Str.ofString "_law_due", PySem.Str.ofString "_law_due", hArgs [33], .stmts (hBody [33]), hScope [33], 3, [], .none, .none, .none, .str (PySem.Str.ofString "law_darkdrawers_k22_next_drawers") 473, .none , .ref 292, .none, 0⟩, #[]⟩⟩ ::
⟨nat_lit 294, ⟨.type "tuple", .none , .seq #[] 0, #[]⟩⟩ ::
⟨nat_lit 297, ⟨.type "code", .none , .fields #[.str (PySem.Str.ofString "law") 574, .str (PySem.Str.ofString "law") 575, .str (PySem.Str.ofString "/claim/cut.py") 576, .int 153 0, .int 1 0, .int 0 0, .int 0 0, .int 3 0, .ref 294, .bool .true, .int 181 0, .ref 295, .none, .none, .none, .ref 296, .int 577 0, .int 153 0, .str (PySem.Str.ofString "/claim/cut.py") 578], #[]⟩⟩ ::
⟨nat_lit 298, ⟨.type "function", .none , .func ⟨PySem.Str.ofString "law", PySem.Str.ofString "law", hArgs [34], .stmts (hBody [34]), hScope [34], 3, [], .none, .none, .none, .str (PySem.Str.ofString "law_darkdrawers_k22_next_drawers") 473, .none , .ref 297, .none, 0⟩, #[]⟩⟩ :: [] : List (Nat × Obj))
noncomputable def hK : Params → Frag := fun P =>
(⟨nat_lit 295, ⟨.none, .none , .fields #[], #[]⟩⟩ ::
⟨nat_lit 2, ⟨.none, .none , .dict #[] 0, #[]⟩⟩ ::
⟨nat_lit 3, ⟨.type "dict", .none , .dict #[⟨PySem.PyData.keyHash P (PySem.Str.ofString "__name__"), .str (PySem.Str.ofString "__name__") 165, .str (PySem.Str.ofString "law_darkdrawers_k22_next_drawers") 473⟩, ⟨PySem.PyData.keyHash P (PySem.Str.ofString "__doc__"), .str (PySem.Str.ofString "__doc__") 166, .none⟩, ⟨PySem.PyData.keyHash P (PySem.Str.ofString "__package__"), .str (PySem.Str.ofString "__package__") 167, .none⟩, ⟨PySem.PyData.keyHash P (PySem.Str.ofString "__loader__"), .str (PySem.Str.ofString "__loader__") 168, .builtin "__main__.__loader__#opaque"⟩, ⟨PySem.PyData.keyHash P (PySem.Str.ofString "__spec__"), .str (PySem.Str.ofString "__spec__") 169, .none⟩, ⟨PySem.PyData.keyHash P (PySem.Str.ofString "__annotations__"), .str (PySem.Str.ofString "__annotations__") 170, .ref 6⟩, ⟨PySem.PyData.keyHash P (PySem.Str.ofString "__builtins__"), .str (PySem.Str.ofString "__builtins__") 171, .ref 4⟩, ⟨PySem.PyData.keyHash P (PySem.Str.ofString "__file__"), .str (PySem.Str.ofString "__file__") 173, .str (PySem.Str.ofString "/claim/cut.py") 172⟩, ⟨PySem.PyData.keyHash P (PySem.Str.ofString "__cached__"), .str (PySem.Str.ofString "__cached__") 174, .none⟩, ⟨PySem.PyData.keyHash P (PySem.Str.ofString "SMALL_THINGS"), .str (PySem.Str.ofString "SMALL_THINGS") 188, .int 14 187⟩, ⟨PySem.PyData.keyHash P (PySem.Str.ofString "DrawerError"), .str (PySem.Str.ofString "DrawerError") 208, .ref 24⟩, ⟨PySem.PyData.keyHash P (PySem.Str.ofString "TooLarge"), .str (PySem.Str.ofString "TooLarge") 233, .ref 44⟩, ⟨PySem.PyData.keyHash P (PySem.Str.ofString "TooMuch"), .str (PySem.Str.ofString "TooMuch") 258, .ref 63⟩, ⟨PySem.PyData.keyHash P (PySem.Str.ofString "TooFew"), .str (PySem.Str.ofString "TooFew") 283, .ref 82⟩, ⟨PySem.PyData.keyHash P (PySem.Str.ofString "BadWish"), .str (PySem.Str.ofString "BadWish") 308, .ref 101⟩, ⟨PySem.PyData.keyHash P (PySem.Str.ofString "BadPlan"), .str (PySem.Str.ofString "BadPlan") 333, .ref 120⟩, ⟨PySem.PyData.keyHash P (PySem.Str.ofString "TooFull"), .str (PySem.Str.ofString "TooFull") 358, .ref 139⟩, ⟨PySem.PyData.keyHash P (PySem.Str.ofString "totals_of"), .str (PySem.Str.ofString "totals_of") 366, .ref 146⟩, ⟨PySem.PyData.keyHash P (PySem.Str.ofString "sizes_of"), .str (PySem.Str.ofString "sizes_of") 372, .ref 151⟩, ⟨PySem.PyData.keyHash P (PySem.Str.ofString "contains"), .str (PySem.Str.ofString "contains") 380, .ref 156⟩, ⟨PySem.PyData.keyHash P (PySem.Str.ofString "fulfilled_by"), .str (PySem.Str.ofString "fulfilled_by") 390, .ref 163⟩, ⟨PySem.PyData.keyHash P (PySem.Str.ofString "added"), .str (PySem.Str.ofString "added") 398, .ref 168⟩, ⟨PySem.PyData.keyHash P (PySem.Str.ofString "without_thing"), .str (PySem.Str.ofString "without_thing") 409, .ref 175⟩, ⟨PySem.PyData.keyHash P (PySem.Str.ofString "Search"), .str (PySem.Str.ofString "Search") 459, .ref 207⟩, ⟨PySem.PyData.keyHash P (PySem.Str.ofString "need_few"), .str (PySem.Str.ofString "need_few") 466, .ref 218⟩, ⟨PySem.PyData.keyHash P (PySem.Str.ofString "next_drawer"), .str (PySem.Str.ofString "next_drawer") 472, .ref 223⟩, ⟨PySem.PyData.keyHash P (PySem.Str.ofString "_law_draws"), .str (PySem.Str.ofString "_law_draws") 480, .ref 228⟩, ⟨PySem.PyData.keyHash P (PySem.Str.ofString "_law_next"), .str (PySem.Str.ofString "_law_next") 495, .ref 235⟩, ⟨PySem.PyData.keyHash P (PySem.Str.ofString "_law_stock"), .str (PySem.Str.ofString "_law_stock") 501, .ref 240⟩, ⟨PySem.PyData.keyHash P (PySem.Str.ofString "_law_wished"), .str (PySem.Str.ofString "_law_wished") 507, .ref 245⟩, ⟨PySem.PyData.keyHash P (PySem.Str.ofString "_law_totals"), .str (PySem.Str.ofString "_law_totals") 513, .ref 250⟩, ⟨PySem.PyData.keyHash P (PySem.Str.ofString "_law_has"), .str (PySem.Str.ofString "_law_has") 519, .ref 255⟩, ⟨PySem.PyData.keyHash P (PySem.Str.ofString "_law_without"), .str (PySem.Str.ofString "_law_without") 529, .ref 262⟩, ⟨PySem.PyData.keyHash P (PySem.Str.ofString "_law_with"), .str (PySem.Str.ofString "_law_with") 537, .ref 269⟩, ⟨PySem.PyData.keyHash P (PySem.Str.ofString "_law_worst"), .str (PySem.Str.ofString "_law_worst") 552, .ref 276⟩, ⟨PySem.PyData.keyHash P (PySem.Str.ofString "_law_further"), .str (PySem.Str.ofString "_law_further") 558, .ref 281⟩, ⟨PySem.PyData.keyHash P (PySem.Str.ofString "_law_told"), .str (PySem.Str.ofString "_law_told") 567, .ref 288⟩, ⟨PySem.PyData.keyHash P (PySem.Str.ofString "_law_due"), .str (PySem.Str.ofString "_law_due") 573, .ref 293⟩, ⟨PySem.PyData.keyHash P (PySem.Str.ofString "law"), .str (PySem.Str.ofString "law") 579, .ref 298⟩] 39, #[]⟩⟩ ::
⟨nat_lit 15, ⟨.type "tuple", .none , .seq #[.type "ValueError"] 0, #[]⟩⟩ ::
⟨nat_lit 22, ⟨.type "tuple", .none , .seq #[] 0, #[]⟩⟩ ::
⟨nat_lit 23, ⟨.type "dict", .none , .dict #[⟨PySem.PyData.keyHash P (PySem.Str.ofString "__module__"), .str (PySem.Str.ofString "__module__") 198, .str (PySem.Str.ofString "darkdrawers.errors") 189⟩, ⟨PySem.PyData.keyHash P (PySem.Str.ofString "__firstlineno__"), .str (PySem.Str.ofString "__firstlineno__") 202, .int 3 201⟩, ⟨PySem.PyData.keyHash P (PySem.Str.ofString "__static_attributes__"), .str (PySem.Str.ofString "__static_attributes__") 203, .ref 22⟩, ⟨PySem.PyData.keyHash P (PySem.Str.ofString "__weakref__"), .str (PySem.Str.ofString "__weakref__") 205, .ref 25⟩, ⟨PySem.PyData.keyHash P (PySem.Str.ofString "__doc__"), .str (PySem.Str.ofString "__doc__") 206, .none⟩] 3, #[]⟩⟩ ::
⟨nat_lit 24, ⟨.type "type", .none , .cls ⟨PySem.Str.ofString "DrawerError", [.type "ValueError"], [.ref 24, .type "ValueError", .type "Exception", .type "BaseException", .type "object"], 23, PySem.Str.ofString "DrawerError", .true, [], [.ref 44, .ref 63, .ref 82, .ref 101, .ref 120, .ref 139], .false, .none , .false⟩, #[.some (.ref 15), .none , .some (.str (PySem.Str.ofString "DrawerError") 191), .some (.str (PySem.Str.ofString "DrawerError") 199), .some (.builtin "ValueError.__new__"), .some (.bool .true)]⟩⟩ ::
⟨nat_lit 25, ⟨.type "getset_descriptor", .none , .fields #[.str (PySem.Str.ofString "__weakref__") 204, .ref 24, .builtin "ExceptionGroup.__weakref__", .none], #[]⟩⟩ ::
⟨nat_lit 28, ⟨.type "tuple", .none , .seq #[.ref 24] 0, #[]⟩⟩ ::
⟨nat_lit 35, ⟨.type "tuple", .none , .seq #[] 0, #[]⟩⟩ ::
⟨nat_lit 37, ⟨.type "tuple", .none , .seq #[.str (PySem.Str.ofString "self") 224, .str (PySem.Str.ofString "bound") 225] 0, #[]⟩⟩ ::
⟨nat_lit 38, ⟨.type "tuple", .none , .seq #[] 0, #[]⟩⟩ ::
⟨nat_lit 40, ⟨.type "code", .none , .fields #[.str (PySem.Str.ofString "__init__") 221, .str (PySem.Str.ofString "TooLarge.__init__") 222, .str (PySem.Str.ofString "/claim/cut.py") 223, .int 7 0, .int 2 0, .int 0 0, .int 0 0, .int 3 0, .ref 35, .bool .true, .int 181 0, .ref 36, .none, .ref 37, .ref 38, .ref 39, .int 226 0, .int 7 0, .str (PySem.Str.ofString "/claim/cut.py") 227], #[]⟩⟩ ::
⟨nat_lit 41, ⟨.type "function", .none , .func ⟨PySem.Str.ofString "__init__", PySem.Str.ofString "TooLarge.__init__", hArgs [3, 0], .stmts (hBody [3, 0]), hScope [3, 0], 3, [], .none, .none, .none, .str (PySem.Str.ofString "darkdrawers.errors") 189, .none , .ref 40, .none, 0⟩, #[]⟩⟩ ::
⟨nat_lit 42, ⟨.type "tuple", .none , .seq #[.str (PySem.Str.ofString "bound") 229] 0, #[]⟩⟩ ::
⟨nat_lit 43, ⟨.type "dict", .none , .dict #[⟨PySem.PyData.keyHash P (PySem.Str.ofString "__module__"), .str (PySem.Str.ofString "__module__") 216, .str (PySem.Str.ofString "darkdrawers.errors") 189⟩, ⟨PySem.PyData.keyHash P (PySem.Str.ofString "__firstlineno__"), .str (PySem.Str.ofString "__firstlineno__") 220, .int 5 219⟩, ⟨PySem.PyData.keyHash P (PySem.Str.ofString "__init__"), .str (PySem.Str.ofString "__init__") 228, .ref 41⟩, ⟨PySem.PyData.keyHash P (PySem.Str.ofString "__static_attributes__"), .str (PySem.Str.ofString "__static_attributes__") 230, .ref 42⟩, ⟨PySem.PyData.keyHash P (PySem.Str.ofString "__doc__"), .str (PySem.Str.ofString "__doc__") 231, .none⟩] 2, #[]⟩⟩ ::
⟨nat_lit 44, ⟨.type "type", .none , .cls ⟨PySem.Str.ofString "TooLarge", [.ref 24], [.ref 44, .ref 24, .type "ValueError", .type "Exception", .type "BaseException", .type "object"], 43, PySem.Str.ofString "TooLarge", .true, [], [], .false, .none , .false⟩, #[.some (.ref 28), .none , .some (.str (PySem.Str.ofString "TooLarge") 209), .some (.str (PySem.Str.ofString "TooLarge") 217), .some (.builtin "ValueError.__new__"), .some (.bool .true)]⟩⟩ ::
⟨nat_lit 47, ⟨.type "tuple", .none , .seq #[.ref 24] 0, #[]⟩⟩ ::
⟨nat_lit 54, ⟨.type "tuple", .none , .seq #[] 0, #[]⟩⟩ ::
⟨nat_lit 56, ⟨.type "tuple", .none , .seq #[.str (PySem.Str.ofString "self") 249, .str (PySem.Str.ofString "total") 250] 0, #[]⟩⟩ ::
⟨nat_lit 57, ⟨.type "tuple", .none , .seq #[] 0, #[]⟩⟩ ::
⟨nat_lit 59, ⟨.type "code", .none , .fields #[.str (PySem.Str.ofString "__init__") 246, .str (PySem.Str.ofString "TooMuch.__init__") 247, .str (PySem.Str.ofString "/claim/cut.py") 248, .int 11 0, .int 2 0, .int 0 0, .int 0 0, .int 3 0, .ref 54, .bool .true, .int 181 0, .ref 55, .none, .ref 56, .ref 57, .ref 58, .int 251 0, .int 11 0, .str (PySem.Str.ofString "/claim/cut.py") 252], #[]⟩⟩ ::
⟨nat_lit 60, ⟨.type "function", .none , .func ⟨PySem.Str.ofString "__init__", PySem.Str.ofString "TooMuch.__init__", hArgs [4, 0], .stmts (hBody [4, 0]), hScope [4, 0], 3, [], .none, .none, .none, .str (PySem.Str.ofString "darkdrawers.errors") 189, .none , .ref 59, .none, 0⟩, #[]⟩⟩ ::
⟨nat_lit 61, ⟨.type "tuple", .none , .seq #[.str (PySem.Str.ofString "total") 254] 0, #[]⟩⟩ ::
⟨nat_lit 62, ⟨.type "dict", .none , .dict #[⟨PySem.PyData.keyHash P (PySem.Str.ofString "__module__"), .str (PySem.Str.ofString "__module__") 241, .str (PySem.Str.ofString "darkdrawers.errors") 189⟩, ⟨PySem.PyData.keyHash P (PySem.Str.ofString "__firstlineno__"), .str (PySem.Str.ofString "__firstlineno__") 245, .int 9 244⟩, ⟨PySem.PyData.keyHash P (PySem.Str.ofString "__init__"), .str (PySem.Str.ofString "__init__") 253, .ref 60⟩, ⟨PySem.PyData.keyHash P (PySem.Str.ofString "__static_attributes__"), .str (PySem.Str.ofString "__static_attributes__") 255, .ref 61⟩, ⟨PySem.PyData.keyHash P (PySem.Str.ofString "__doc__"), .str (PySem.Str.ofString "__doc__") 256, .none⟩] 2, #[]⟩⟩ ::
⟨nat_lit 63, ⟨.type "type", .none , .cls ⟨PySem.Str.ofString "TooMuch", [.ref 24], [.ref 63, .ref 24, .type "ValueError", .type "Exception", .type "BaseException", .type "object"], 62, PySem.Str.ofString "TooMuch", .true, [], [], .false, .none , .false⟩, #[.some (.ref 47), .none , .some (.str (PySem.Str.ofString "TooMuch") 234), .some (.str (PySem.Str.ofString "TooMuch") 242), .some (.builtin "ValueError.__new__"), .some (.bool .true)]⟩⟩ ::
⟨nat_lit 66, ⟨.type "tuple", .none , .seq #[.ref 24] 0, #[]⟩⟩ ::
⟨nat_lit 73, ⟨.type "tuple", .none , .seq #[] 0, #[]⟩⟩ ::
⟨nat_lit 75, ⟨.type "tuple", .none , .seq #[.str (PySem.Str.ofString "self") 274, .str (PySem.Str.ofString "kind") 275] 0, #[]⟩⟩ ::
⟨nat_lit 76, ⟨.type "tuple", .none , .seq #[] 0, #[]⟩⟩ ::
⟨nat_lit 78, ⟨.type "code", .none , .fields #[.str (PySem.Str.ofString "__init__") 271, .str (PySem.Str.ofString "TooFew.__init__") 272, .str (PySem.Str.ofString "/claim/cut.py") 273, .int 15 0, .int 2 0, .int 0 0, .int 0 0, .int 3 0, .ref 73, .bool .true, .int 181 0, .ref 74, .none, .ref 75, .ref 76, .ref 77, .int 276 0, .int 15 0, .str (PySem.Str.ofString "/claim/cut.py") 277], #[]⟩⟩ ::
⟨nat_lit 79, ⟨.type "function", .none , .func ⟨PySem.Str.ofString "__init__", PySem.Str.ofString "TooFew.__init__", hArgs [5, 0], .stmts (hBody [5, 0]), hScope [5, 0], 3, [], .none, .none, .none, .str (PySem.Str.ofString "darkdrawers.errors") 189, .none , .ref 78, .none, 0⟩, #[]⟩⟩ ::
⟨nat_lit 80, ⟨.type "tuple", .none , .seq #[.str (PySem.Str.ofString "kind") 279] 0, #[]⟩⟩ ::
⟨nat_lit 81, ⟨.type "dict", .none , .dict #[⟨PySem.PyData.keyHash P (PySem.Str.ofString "__module__"), .str (PySem.Str.ofString "__module__") 266, .str (PySem.Str.ofString "darkdrawers.errors") 189⟩, ⟨PySem.PyData.keyHash P (PySem.Str.ofString "__firstlineno__"), .str (PySem.Str.ofString "__firstlineno__") 270, .int 13 269⟩, ⟨PySem.PyData.keyHash P (PySem.Str.ofString "__init__"), .str (PySem.Str.ofString "__init__") 278, .ref 79⟩, ⟨PySem.PyData.keyHash P (PySem.Str.ofString "__static_attributes__"), .str (PySem.Str.ofString "__static_attributes__") 280, .ref 80⟩, ⟨PySem.PyData.keyHash P (PySem.Str.ofString "__doc__"), .str (PySem.Str.ofString "__doc__") 281, .none⟩] 2, #[]⟩⟩ ::
⟨nat_lit 82, ⟨.type "type", .none , .cls ⟨PySem.Str.ofString "TooFew", [.ref 24], [.ref 82, .ref 24, .type "ValueError", .type "Exception", .type "BaseException", .type "object"], 81, PySem.Str.ofString "TooFew", .true, [], [], .false, .none , .false⟩, #[.some (.ref 66), .none , .some (.str (PySem.Str.ofString "TooFew") 259), .some (.str (PySem.Str.ofString "TooFew") 267), .some (.builtin "ValueError.__new__"), .some (.bool .true)]⟩⟩ ::
⟨nat_lit 85, ⟨.type "tuple", .none , .seq #[.ref 24] 0, #[]⟩⟩ ::
⟨nat_lit 92, ⟨.type "tuple", .none , .seq #[] 0, #[]⟩⟩ ::
⟨nat_lit 94, ⟨.type "tuple", .none , .seq #[.str (PySem.Str.ofString "self") 299, .str (PySem.Str.ofString "value") 300] 0, #[]⟩⟩ ::
⟨nat_lit 95, ⟨.type "tuple", .none , .seq #[] 0, #[]⟩⟩ ::
⟨nat_lit 97, ⟨.type "code", .none , .fields #[.str (PySem.Str.ofString "__init__") 296, .str (PySem.Str.ofString "BadWish.__init__") 297, .str (PySem.Str.ofString "/claim/cut.py") 298, .int 19 0, .int 2 0, .int 0 0, .int 0 0, .int 3 0, .ref 92, .bool .true, .int 181 0, .ref 93, .none, .ref 94, .ref 95, .ref 96, .int 301 0, .int 19 0, .str (PySem.Str.ofString "/claim/cut.py") 302], #[]⟩⟩ ::
⟨nat_lit 98, ⟨.type "function", .none , .func ⟨PySem.Str.ofString "__init__", PySem.Str.ofString "BadWish.__init__", hArgs [6, 0], .stmts (hBody [6, 0]), hScope [6, 0], 3, [], .none, .none, .none, .str (PySem.Str.ofString "darkdrawers.errors") 189, .none , .ref 97, .none, 0⟩, #[]⟩⟩ ::
⟨nat_lit 99, ⟨.type "tuple", .none , .seq #[.str (PySem.Str.ofString "value") 304] 0, #[]⟩⟩ ::
⟨nat_lit 100, ⟨.type "dict", .none , .dict #[⟨PySem.PyData.keyHash P (PySem.Str.ofString "__module__"), .str (PySem.Str.ofString "__module__") 291, .str (PySem.Str.ofString "darkdrawers.errors") 189⟩, ⟨PySem.PyData.keyHash P (PySem.Str.ofString "__firstlineno__"), .str (PySem.Str.ofString "__firstlineno__") 295, .int 17 294⟩, ⟨PySem.PyData.keyHash P (PySem.Str.ofString "__init__"), .str (PySem.Str.ofString "__init__") 303, .ref 98⟩, ⟨PySem.PyData.keyHash P (PySem.Str.ofString "__static_attributes__"), .str (PySem.Str.ofString "__static_attributes__") 305, .ref 99⟩, ⟨PySem.PyData.keyHash P (PySem.Str.ofString "__doc__"), .str (PySem.Str.ofString "__doc__") 306, .none⟩] 2, #[]⟩⟩ ::
⟨nat_lit 101, ⟨.type "type", .none , .cls ⟨PySem.Str.ofString "BadWish", [.ref 24], [.ref 101, .ref 24, .type "ValueError", .type "Exception", .type "BaseException", .type "object"], 100, PySem.Str.ofString "BadWish", .true, [], [], .false, .none , .false⟩, #[.some (.ref 85), .none , .some (.str (PySem.Str.ofString "BadWish") 284), .some (.str (PySem.Str.ofString "BadWish") 292), .some (.builtin "ValueError.__new__"), .some (.bool .true)]⟩⟩ ::
⟨nat_lit 104, ⟨.type "tuple", .none , .seq #[.ref 24] 0, #[]⟩⟩ ::
⟨nat_lit 111, ⟨.type "tuple", .none , .seq #[] 0, #[]⟩⟩ ::
⟨nat_lit 113, ⟨.type "tuple", .none , .seq #[.str (PySem.Str.ofString "self") 324, .str (PySem.Str.ofString "value") 325] 0, #[]⟩⟩ ::
⟨nat_lit 114, ⟨.type "tuple", .none , .seq #[] 0, #[]⟩⟩ ::
⟨nat_lit 116, ⟨.type "code", .none , .fields #[.str (PySem.Str.ofString "__init__") 321, .str (PySem.Str.ofString "BadPlan.__init__") 322, .str (PySem.Str.ofString "/claim/cut.py") 323, .int 23 0, .int 2 0, .int 0 0, .int 0 0, .int 3 0, .ref 111, .bool .true, .int 181 0, .ref 112, .none, .ref 113, .ref 114, .ref 115, .int 326 0, .int 23 0, .str (PySem.Str.ofString "/claim/cut.py") 327], #[]⟩⟩ ::
⟨nat_lit 117, ⟨.type "function", .none , .func ⟨PySem.Str.ofString "__init__", PySem.Str.ofString "BadPlan.__init__", hArgs [7, 0], .stmts (hBody [7, 0]), hScope [7, 0], 3, [], .none, .none, .none, .str (PySem.Str.ofString "darkdrawers.errors") 189, .none , .ref 116, .none, 0⟩, #[]⟩⟩ ::
⟨nat_lit 118, ⟨.type "tuple", .none , .seq #[.str (PySem.Str.ofString "value") 329] 0, #[]⟩⟩ ::
⟨nat_lit 119, ⟨.type "dict", .none , .dict #[⟨PySem.PyData.keyHash P (PySem.Str.ofString "__module__"), .str (PySem.Str.ofString "__module__") 316, .str (PySem.Str.ofString "darkdrawers.errors") 189⟩, ⟨PySem.PyData.keyHash P (PySem.Str.ofString "__firstlineno__"), .str (PySem.Str.ofString "__firstlineno__") 320, .int 21 319⟩, ⟨PySem.PyData.keyHash P (PySem.Str.ofString "__init__"), .str (PySem.Str.ofString "__init__") 328, .ref 117⟩, ⟨PySem.PyData.keyHash P (PySem.Str.ofString "__static_attributes__"), .str (PySem.Str.ofString "__static_attributes__") 330, .ref 118⟩, ⟨PySem.PyData.keyHash P (PySem.Str.ofString "__doc__"), .str (PySem.Str.ofString "__doc__") 331, .none⟩] 2, #[]⟩⟩ ::
⟨nat_lit 120, ⟨.type "type", .none , .cls ⟨PySem.Str.ofString "BadPlan", [.ref 24], [.ref 120, .ref 24, .type "ValueError", .type "Exception", .type "BaseException", .type "object"], 119, PySem.Str.ofString "BadPlan", .true, [], [], .false, .none , .false⟩, #[.some (.ref 104), .none , .some (.str (PySem.Str.ofString "BadPlan") 309), .some (.str (PySem.Str.ofString "BadPlan") 317), .some (.builtin "ValueError.__new__"), .some (.bool .true)]⟩⟩ ::
⟨nat_lit 123, ⟨.type "tuple", .none , .seq #[.ref 24] 0, #[]⟩⟩ ::
⟨nat_lit 130, ⟨.type "tuple", .none , .seq #[] 0, #[]⟩⟩ ::
⟨nat_lit 132, ⟨.type "tuple", .none , .seq #[.str (PySem.Str.ofString "self") 349, .str (PySem.Str.ofString "number") 350] 0, #[]⟩⟩ ::
⟨nat_lit 133, ⟨.type "tuple", .none , .seq #[] 0, #[]⟩⟩ ::
⟨nat_lit 135, ⟨.type "code", .none , .fields #[.str (PySem.Str.ofString "__init__") 346, .str (PySem.Str.ofString "TooFull.__init__") 347, .str (PySem.Str.ofString "/claim/cut.py") 348, .int 27 0, .int 2 0, .int 0 0, .int 0 0, .int 3 0, .ref 130, .bool .true, .int 181 0, .ref 131, .none, .ref 132, .ref 133, .ref 134, .int 351 0, .int 27 0, .str (PySem.Str.ofString "/claim/cut.py") 352], #[]⟩⟩ ::
⟨nat_lit 136, ⟨.type "function", .none , .func ⟨PySem.Str.ofString "__init__", PySem.Str.ofString "TooFull.__init__", hArgs [8, 0], .stmts (hBody [8, 0]), hScope [8, 0], 3, [], .none, .none, .none, .str (PySem.Str.ofString "darkdrawers.errors") 189, .none , .ref 135, .none, 0⟩, #[]⟩⟩ ::
⟨nat_lit 137, ⟨.type "tuple", .none , .seq #[.str (PySem.Str.ofString "number") 354] 0, #[]⟩⟩ ::
⟨nat_lit 138, ⟨.type "dict", .none , .dict #[⟨PySem.PyData.keyHash P (PySem.Str.ofString "__module__"), .str (PySem.Str.ofString "__module__") 341, .str (PySem.Str.ofString "darkdrawers.errors") 189⟩, ⟨PySem.PyData.keyHash P (PySem.Str.ofString "__firstlineno__"), .str (PySem.Str.ofString "__firstlineno__") 345, .int 25 344⟩, ⟨PySem.PyData.keyHash P (PySem.Str.ofString "__init__"), .str (PySem.Str.ofString "__init__") 353, .ref 136⟩, ⟨PySem.PyData.keyHash P (PySem.Str.ofString "__static_attributes__"), .str (PySem.Str.ofString "__static_attributes__") 355, .ref 137⟩, ⟨PySem.PyData.keyHash P (PySem.Str.ofString "__doc__"), .str (PySem.Str.ofString "__doc__") 356, .none⟩] 2, #[]⟩⟩ ::
⟨nat_lit 139, ⟨.type "type", .none , .cls ⟨PySem.Str.ofString "TooFull", [.ref 24], [.ref 139, .ref 24, .type "ValueError", .type "Exception", .type "BaseException", .type "object"], 138, PySem.Str.ofString "TooFull", .true, [], [], .false, .none , .false⟩, #[.some (.ref 123), .none , .some (.str (PySem.Str.ofString "TooFull") 334), .some (.str (PySem.Str.ofString "TooFull") 342), .some (.builtin "ValueError.__new__"), .some (.bool .true)]⟩⟩ ::
⟨nat_lit 142, ⟨.type "tuple", .none , .seq #[] 0, #[]⟩⟩ ::
⟨nat_lit 145, ⟨.type "code", .none , .fields #[.str (PySem.Str.ofString "totals_of") 361, .str (PySem.Str.ofString "totals_of") 362, .str (PySem.Str.ofString "/claim/cut.py") 363, .int 30 0, .int 1 0, .int 0 0, .int 0 0, .int 3 0, .ref 142, .bool .true, .int 181 0, .ref 143, .none, .none, .none, .ref 144, .int 364 0, .int 30 0, .str (PySem.Str.ofString "/claim/cut.py") 365], #[]⟩⟩ ::
⟨nat_lit 146, ⟨.type "function", .none , .func ⟨PySem.Str.ofString "totals_of", PySem.Str.ofString "totals_of", hArgs [10], .stmts (hBody [10]), hScope [10], 3, [], .none, .none, .none, .str (PySem.Str.ofString "darkdrawers.stocks") 359, .none , .ref 145, .none, 0⟩, #[]⟩⟩ ::
⟨nat_lit 147, ⟨.type "tuple", .none , .seq #[] 0, #[]⟩⟩ ::
⟨nat_lit 150, ⟨.type "code", .none , .fields #[.str (PySem.Str.ofString "sizes_of") 367, .str (PySem.Str.ofString "sizes_of") 368, .str (PySem.Str.ofString "/claim/cut.py") 369, .int 32 0, .int 1 0, .int 0 0, .int 0 0, .int 3 0, .ref 147, .bool .true, .int 181 0, .ref 148, .none, .none, .none, .ref 149, .int 370 0, .int 32 0, .str (PySem.Str.ofString "/claim/cut.py") 371], #[]⟩⟩ ::
⟨nat_lit 151, ⟨.type "function", .none , .func ⟨PySem.Str.ofString "sizes_of", PySem.Str.ofString "sizes_of", hArgs [11], .stmts (hBody [11]), hScope [11], 3, [], .none, .none, .none, .str (PySem.Str.ofString "darkdrawers.stocks") 359, .none , .ref 150, .none, 0⟩, #[]⟩⟩ ::
⟨nat_lit 152, ⟨.type "tuple", .none , .seq #[] 0, #[]⟩⟩ ::
⟨nat_lit 155, ⟨.type "code", .none , .fields #[.str (PySem.Str.ofString "contains") 375, .str (PySem.Str.ofString "contains") 376, .str (PySem.Str.ofString "/claim/cut.py") 377, .int 35 0, .int 2 0, .int 0 0, .int 0 0, .int 3 0, .ref 152, .bool .true, .int 181 0, .ref 153, .none, .none, .none, .ref 154, .int 378 0, .int 35 0, .str (PySem.Str.ofString "/claim/cut.py") 379], #[]⟩⟩ ::
⟨nat_lit 156, ⟨.type "function", .none , .func ⟨PySem.Str.ofString "contains", PySem.Str.ofString "contains", hArgs [13], .stmts (hBody [13]), hScope [13], 3, [], .none, .none, .none, .str (PySem.Str.ofString "darkdrawers.wishes") 373, .none , .ref 155, .none, 0⟩, #[]⟩⟩ ::
⟨nat_lit 157, ⟨.type "tuple", .none , .seq #[] 0, #[]⟩⟩ ::
⟨nat_lit 159, ⟨.type "tuple", .none , .seq #[.str (PySem.Str.ofString "collections") 384, .str (PySem.Str.ofString "counts") 385, .str (PySem.Str.ofString "index") 386, .str (PySem.Str.ofString "collection") 387] 0, #[]⟩⟩ ::
⟨nat_lit 160, ⟨.type "tuple", .none , .seq #[] 0, #[]⟩⟩ ::
⟨nat_lit 162, ⟨.type "code", .none , .fields #[.str (PySem.Str.ofString "fulfilled_by") 381, .str (PySem.Str.ofString "fulfilled_by") 382, .str (PySem.Str.ofString "/claim/cut.py") 383, .int 37 0, .int 2 0, .int 0 0, .int 0 0, .int 3 0, .ref 157, .bool .true, .int 181 0, .ref 158, .none, .ref 159, .ref 160, .ref 161, .int 388 0, .int 37 0, .str (PySem.Str.ofString "/claim/cut.py") 389], #[]⟩⟩ ::
⟨nat_lit 163, ⟨.type "function", .none , .func ⟨PySem.Str.ofString "fulfilled_by", PySem.Str.ofString "fulfilled_by", hArgs [14], .stmts (hBody [14]), hScope [14], 3, [], .none, .none, .none, .str (PySem.Str.ofString "darkdrawers.wishes") 373, .none , .ref 162, .none, 0⟩, #[]⟩⟩ ::
⟨nat_lit 164, ⟨.type "tuple", .none , .seq #[] 0, #[]⟩⟩ ::
⟨nat_lit 167, ⟨.type "code", .none , .fields #[.str (PySem.Str.ofString "added") 393, .str (PySem.Str.ofString "added") 394, .str (PySem.Str.ofString "/claim/cut.py") 395, .int 43 0, .int 2 0, .int 0 0, .int 0 0, .int 3 0, .ref 164, .bool .true, .int 181 0, .ref 165, .none, .none, .none, .ref 166, .int 396 0, .int 43 0, .str (PySem.Str.ofString "/claim/cut.py") 397], #[]⟩⟩ ::
⟨nat_lit 168, ⟨.type "function", .none , .func ⟨PySem.Str.ofString "added", PySem.Str.ofString "added", hArgs [16], .stmts (hBody [16]), hScope [16], 3, [], .none, .none, .none, .str (PySem.Str.ofString "darkdrawers.looking") 391, .none , .ref 167, .none, 0⟩, #[]⟩⟩ ::
⟨nat_lit 169, ⟨.type "tuple", .none , .seq #[] 0, #[]⟩⟩ ::
⟨nat_lit 171, ⟨.type "tuple", .none , .seq #[.str (PySem.Str.ofString "stock") 402, .str (PySem.Str.ofString "drawer") 403, .str (PySem.Str.ofString "kind") 404, .str (PySem.Str.ofString "counts") 405, .str (PySem.Str.ofString "less") 406] 0, #[]⟩⟩ ::
⟨nat_lit 172, ⟨.type "tuple", .none , .seq #[] 0, #[]⟩⟩ ::
⟨nat_lit 174, ⟨.type "code", .none , .fields #[.str (PySem.Str.ofString "without_thing") 399, .str (PySem.Str.ofString "without_thing") 400, .str (PySem.Str.ofString "/claim/cut.py") 401, .int 45 0, .int 3 0, .int 0 0, .int 0 0, .int 3 0, .ref 169, .bool .true, .int 181 0, .ref 170, .none, .ref 171, .ref 172, .ref 173, .int 407 0, .int 45 0, .str (PySem.Str.ofString "/claim/cut.py") 408], #[]⟩⟩ ::
⟨nat_lit 175, ⟨.type "function", .none , .func ⟨PySem.Str.ofString "without_thing", PySem.Str.ofString "without_thing", hArgs [17], .stmts (hBody [17]), hScope [17], 3, [], .none, .none, .none, .str (PySem.Str.ofString "darkdrawers.looking") 391, .none , .ref 174, .none, 0⟩, #[]⟩⟩ ::
⟨nat_lit 183, ⟨.type "tuple", .none , .seq #[] 0, #[]⟩⟩ ::
⟨nat_lit 185, ⟨.type "tuple", .none , .seq #[.str (PySem.Str.ofString "self") 425, .str (PySem.Str.ofString "collections") 426, .str (PySem.Str.ofString "totals") 427] 0, #[]⟩⟩ ::
⟨nat_lit 186, ⟨.type "tuple", .none , .seq #[] 0, #[]⟩⟩ ::
⟨nat_lit 188, ⟨.type "code", .none , .fields #[.str (PySem.Str.ofString "__init__") 422, .str (PySem.Str.ofString "Search.__init__") 423, .str (PySem.Str.ofString "/claim/cut.py") 424, .int 51 0, .int 3 0, .int 0 0, .int 0 0, .int 3 0, .ref 183, .bool .true, .int 181 0, .ref 184, .none, .ref 185, .ref 186, .ref 187, .int 428 0, .int 51 0, .str (PySem.Str.ofString "/claim/cut.py") 429], #[]⟩⟩ ::
⟨nat_lit 189, ⟨.type "function", .none , .func ⟨PySem.Str.ofString "__init__", PySem.Str.ofString "Search.__init__", hArgs [18, 0], .stmts (hBody [18, 0]), hScope [18, 0], 3, [], .none, .none, .none, .str (PySem.Str.ofString "darkdrawers.looking") 391, .none , .ref 188, .none, 0⟩, #[]⟩⟩ ::
⟨nat_lit 190, ⟨.type "tuple", .none , .seq #[] 0, #[]⟩⟩ ::
⟨nat_lit 193, ⟨.type "code", .none , .fields #[.str (PySem.Str.ofString "is_done") 431, .str (PySem.Str.ofString "Search.is_done") 432, .str (PySem.Str.ofString "/claim/cut.py") 433, .int 56 0, .int 2 0, .int 0 0, .int 0 0, .int 3 0, .ref 190, .bool .true, .int 181 0, .ref 191, .none, .none, .none, .ref 192, .int 434 0, .int 56 0, .str (PySem.Str.ofString "/claim/cut.py") 435], #[]⟩⟩ ::
⟨nat_lit 194, ⟨.type "function", .none , .func ⟨PySem.Str.ofString "is_done", PySem.Str.ofString "Search.is_done", hArgs [18, 1], .stmts (hBody [18, 1]), hScope [18, 1], 3, [], .none, .none, .none, .str (PySem.Str.ofString "darkdrawers.looking") 391, .none , .ref 193, .none, 0⟩, #[]⟩⟩ ::
⟨nat_lit 195, ⟨.type "tuple", .none , .seq #[] 0, #[]⟩⟩ ::
⟨nat_lit 198, ⟨.type "code", .none , .fields #[.str (PySem.Str.ofString "worst") 437, .str (PySem.Str.ofString "Search.worst") 438, .str (PySem.Str.ofString "/claim/cut.py") 439, .int 60 0, .int 3 0, .int 0 0, .int 0 0, .int 3 0, .ref 195, .bool .true, .int 181 0, .ref 196, .none, .none, .none, .ref 197, .int 440 0, .int 60 0, .str (PySem.Str.ofString "/claim/cut.py") 441], #[]⟩⟩ ::
⟨nat_lit 199, ⟨.type "function", .none , .func ⟨PySem.Str.ofString "worst", PySem.Str.ofString "Search.worst", hArgs [18, 2], .stmts (hBody [18, 2]), hScope [18, 2], 3, [], .none, .none, .none, .str (PySem.Str.ofString "darkdrawers.looking") 391, .none , .ref 198, .none, 0⟩, #[]⟩⟩ ::
⟨nat_lit 200, ⟨.type "tuple", .none , .seq #[] 0, #[]⟩⟩ ::
⟨nat_lit 203, ⟨.type "code", .none , .fields #[.str (PySem.Str.ofString "further") 443, .str (PySem.Str.ofString "Search.further") 444, .str (PySem.Str.ofString "/claim/cut.py") 445, .int 64 0, .int 2 0, .int 0 0, .int 0 0, .int 3 0, .ref 200, .bool .true, .int 181 0, .ref 201, .none, .none, .none, .ref 202, .int 446 0, .int 64 0, .str (PySem.Str.ofString "/claim/cut.py") 447], #[]⟩⟩ ::
⟨nat_lit 204, ⟨.type "function", .none , .func ⟨PySem.Str.ofString "further", PySem.Str.ofString "Search.further", hArgs [18, 3], .stmts (hBody [18, 3]), hScope [18, 3], 3, [], .none, .none, .none, .str (PySem.Str.ofString "darkdrawers.looking") 391, .none , .ref 203, .none, 0⟩, #[]⟩⟩ ::
⟨nat_lit 205, ⟨.type "tuple", .none , .seq #[.str (PySem.Str.ofString "known") 449, .str (PySem.Str.ofString "needs") 450, .str (PySem.Str.ofString "totals") 451] 0, #[]⟩⟩ ::
⟨nat_lit 206, ⟨.type "dict", .none , .dict #[⟨PySem.PyData.keyHash P (PySem.Str.ofString "__module__"), .str (PySem.Str.ofString "__module__") 417, .str (PySem.Str.ofString "darkdrawers.looking") 391⟩, ⟨PySem.PyData.keyHash P (PySem.Str.ofString "__firstlineno__"), .str (PySem.Str.ofString "__firstlineno__") 421, .int 49 420⟩, ⟨PySem.PyData.keyHash P (PySem.Str.ofString "__init__"), .str (PySem.Str.ofString "__init__") 430, .ref 189⟩, ⟨PySem.PyData.keyHash P (PySem.Str.ofString "is_done"), .str (PySem.Str.ofString "is_done") 436, .ref 194⟩, ⟨PySem.PyData.keyHash P (PySem.Str.ofString "worst"), .str (PySem.Str.ofString "worst") 442, .ref 199⟩, ⟨PySem.PyData.keyHash P (PySem.Str.ofString "further"), .str (PySem.Str.ofString "further") 448, .ref 204⟩, ⟨PySem.PyData.keyHash P (PySem.Str.ofString "__static_attributes__"), .str (PySem.Str.ofString "__static_attributes__") 452, .ref 205⟩, ⟨PySem.PyData.keyHash P (PySem.Str.ofString "__dict__"), .str (PySem.Str.ofString "__dict__") 454, .ref 208⟩, ⟨PySem.PyData.keyHash P (PySem.Str.ofString "__weakref__"), .str (PySem.Str.ofString "__weakref__") 456, .ref 209⟩, ⟨PySem.PyData.keyHash P (PySem.Str.ofString "__doc__"), .str (PySem.Str.ofString "__doc__") 457, .none⟩] 4, #[]⟩⟩ ::
⟨nat_lit 207, ⟨.type "type", .none , .cls ⟨PySem.Str.ofString "Search", [.type "object"], [.ref 207, .type "object"], 206, PySem.Str.ofString "Search", .true, [], [], .false, .none , .false⟩, #[.none , .none , .some (.str (PySem.Str.ofString "Search") 410), .some (.str (PySem.Str.ofString "Search") 418), .some (.builtin "object.__new__"), .some (.bool .true)]⟩⟩ ::
⟨nat_lit 208, ⟨.type "getset_descriptor", .none , .fields #[.str (PySem.Str.ofString "__dict__") 453, .ref 207, .builtin "function.__dict__", .builtin "function.__dict__#set"], #[]⟩⟩ ::
⟨nat_lit 209, ⟨.type "getset_descriptor", .none , .fields #[.str (PySem.Str.ofString "__weakref__") 455, .ref 207, .builtin "ExceptionGroup.__weakref__", .none], #[]⟩⟩ ::
⟨nat_lit 212, ⟨.type "tuple", .none , .seq #[] 0, #[]⟩⟩ ::
⟨nat_lit 214, ⟨.type "tuple", .none , .seq #[.str (PySem.Str.ofString "stock") 463] 0, #[]⟩⟩ ::
⟨nat_lit 215, ⟨.type "tuple", .none , .seq #[] 0, #[]⟩⟩ ::
⟨nat_lit 217, ⟨.type "code", .none , .fields #[.str (PySem.Str.ofString "need_few") 460, .str (PySem.Str.ofString "need_few") 461, .str (PySem.Str.ofString "/claim/cut.py") 462, .int 69 0, .int 1 0, .int 0 0, .int 0 0, .int 3 0, .ref 212, .bool .true, .int 181 0, .ref 213, .none, .ref 214, .ref 215, .ref 216, .int 464 0, .int 69 0, .str (PySem.Str.ofString "/claim/cut.py") 465], #[]⟩⟩ ::
⟨nat_lit 218, ⟨.type "function", .none , .func ⟨PySem.Str.ofString "need_few", PySem.Str.ofString "need_few", hArgs [19], .stmts (hBody [19]), hScope [19], 3, [], .none, .none, .none, .str (PySem.Str.ofString "darkdrawers.looking") 391, .none , .ref 217, .none, 0⟩, #[]⟩⟩ ::
⟨nat_lit 219, ⟨.type "tuple", .none , .seq #[] 0, #[]⟩⟩ ::
⟨nat_lit 222, ⟨.type "code", .none , .fields #[.str (PySem.Str.ofString "next_drawer") 467, .str (PySem.Str.ofString "next_drawer") 468, .str (PySem.Str.ofString "/claim/cut.py") 469, .int 72 0, .int 3 0, .int 0 0, .int 0 0, .int 3 0, .ref 219, .bool .true, .int 181 0, .ref 220, .none, .none, .none, .ref 221, .int 470 0, .int 72 0, .str (PySem.Str.ofString "/claim/cut.py") 471], #[]⟩⟩ ::
⟨nat_lit 223, ⟨.type "function", .none , .func ⟨PySem.Str.ofString "next_drawer", PySem.Str.ofString "next_drawer", hArgs [20], .stmts (hBody [20]), hScope [20], 3, [], .none, .none, .none, .str (PySem.Str.ofString "darkdrawers.looking") 391, .none , .ref 222, .none, 0⟩, #[]⟩⟩ ::
⟨nat_lit 224, ⟨.type "tuple", .none , .seq #[] 0, #[]⟩⟩ ::
⟨nat_lit 227, ⟨.type "code", .none , .fields #[.str (PySem.Str.ofString "_law_draws") 475, .str (PySem.Str.ofString "_law_draws") 476, .str (PySem.Str.ofString "/claim/cut.py") 477, .int 81 0, .int 1 0, .int 0 0, .int 0 0, .int 3 0, .ref 224, .bool .true, .int 181 0, .ref 225, .none, .none, .none, .ref 226, .int 478 0, .int 81 0, .str (PySem.Str.ofString "/claim/cut.py") 479], #[]⟩⟩ ::
⟨nat_lit 228, ⟨.type "function", .none , .func ⟨PySem.Str.ofString "_law_draws", PySem.Str.ofString "_law_draws", hArgs [22], .stmts (hBody [22]), hScope [22], 3, [], .none, .none, .none, .str (PySem.Str.ofString "law_darkdrawers_k22_next_drawers") 473, .none , .ref 227, .none, 0⟩, #[]⟩⟩ ::
⟨nat_lit 229, ⟨.type "tuple", .none , .seq #[] 0, #[]⟩⟩ ::
⟨nat_lit 231, ⟨.type "tuple", .none , .seq #[.str (PySem.Str.ofString "_law_drawn") 484, .str (PySem.Str.ofString "_law_many") 485, .str (PySem.Str.ofString "_law_cells") 486, .str (PySem.Str.ofString "_law_nth") 487, .str (PySem.Str.ofString "_law_rests") 488, .str (PySem.Str.ofString "_law_spot") 489, .str (PySem.Str.ofString "_law_digit") 490, .str (PySem.Str.ofString "_law_mixed") 491, .str (PySem.Str.ofString "_law_more") 492] 0, #[]⟩⟩ ::
⟨nat_lit 232, ⟨.type "tuple", .none , .seq #[] 0, #[]⟩⟩ ::
⟨nat_lit 234, ⟨.type "code", .none , .fields #[.str (PySem.Str.ofString "_law_next") 481, .str (PySem.Str.ofString "_law_next") 482, .str (PySem.Str.ofString "/claim/cut.py") 483, .int 84 0, .int 2 0, .int 0 0, .int 0 0, .int 3 0, .ref 229, .bool .true, .int 181 0, .ref 230, .none, .ref 231, .ref 232, .ref 233, .int 493 0, .int 84 0, .str (PySem.Str.ofString "/claim/cut.py") 494], #[]⟩⟩ ::
⟨nat_lit 235, ⟨.type "function", .none , .func ⟨PySem.Str.ofString "_law_next", PySem.Str.ofString "_law_next", hArgs [23], .stmts (hBody [23]), hScope [23], 3, [], .none, .none, .none, .str (PySem.Str.ofString "law_darkdrawers_k22_next_drawers") 473, .none , .ref 234, .none, 0⟩, #[]⟩⟩ ::
⟨nat_lit 236, ⟨.type "tuple", .none , .seq #[] 0, #[]⟩⟩ ::
⟨nat_lit 239, ⟨.type "code", .none , .fields #[.str (PySem.Str.ofString "_law_stock") 496, .str (PySem.Str.ofString "_law_stock") 497, .str (PySem.Str.ofString "/claim/cut.py") 498, .int 95 0, .int 3 0, .int 0 0, .int 0 0, .int 3 0, .ref 236, .bool .true, .int 181 0, .ref 237, .none, .none, .none, .ref 238, .int 499 0, .int 95 0, .str (PySem.Str.ofString "/claim/cut.py") 500], #[]⟩⟩ ::
⟨nat_lit 240, ⟨.type "function", .none , .func ⟨PySem.Str.ofString "_law_stock", PySem.Str.ofString "_law_stock", hArgs [24], .stmts (hBody [24]), hScope [24], 3, [], .none, .none, .none, .str (PySem.Str.ofString "law_darkdrawers_k22_next_drawers") 473, .none , .ref 239, .none, 0⟩, #[]⟩⟩ ::
⟨nat_lit 241, ⟨.type "tuple", .none , .seq #[] 0, #[]⟩⟩ ::
⟨nat_lit 244, ⟨.type "code", .none , .fields #[.str (PySem.Str.ofString "_law_wished") 502, .str (PySem.Str.ofString "_law_wished") 503, .str (PySem.Str.ofString "/claim/cut.py") 504, .int 102 0, .int 3 0, .int 0 0, .int 0 0, .int 3 0, .ref 241, .bool .true, .int 181 0, .ref 242, .none, .none, .none, .ref 243, .int 505 0, .int 102 0, .str (PySem.Str.ofString "/claim/cut.py") 506], #[]⟩⟩ ::
⟨nat_lit 245, ⟨.type "function", .none , .func ⟨PySem.Str.ofString "_law_wished", PySem.Str.ofString "_law_wished", hArgs [25], .stmts (hBody [25]), hScope [25], 3, [], .none, .none, .none, .str (PySem.Str.ofString "law_darkdrawers_k22_next_drawers") 473, .none , .ref 244, .none, 0⟩, #[]⟩⟩ ::
⟨nat_lit 246, ⟨.type "tuple", .none , .seq #[] 0, #[]⟩⟩ ::
⟨nat_lit 249, ⟨.type "code", .none , .fields #[.str (PySem.Str.ofString "_law_totals") 508, .str (PySem.Str.ofString "_law_totals") 509, .str (PySem.Str.ofString "/claim/cut.py") 510, .int 110 0, .int 1 0, .int 0 0, .int 0 0, .int 3 0, .ref 246, .bool .true, .int 181 0, .ref 247, .none, .none, .none, .ref 248, .int 511 0, .int 110 0, .str (PySem.Str.ofString "/claim/cut.py") 512], #[]⟩⟩ ::
⟨nat_lit 250, ⟨.type "function", .none , .func ⟨PySem.Str.ofString "_law_totals", PySem.Str.ofString "_law_totals", hArgs [26], .stmts (hBody [26]), hScope [26], 3, [], .none, .none, .none, .str (PySem.Str.ofString "law_darkdrawers_k22_next_drawers") 473, .none , .ref 249, .none, 0⟩, #[]⟩⟩ ::
⟨nat_lit 251, ⟨.type "tuple", .none , .seq #[] 0, #[]⟩⟩ ::
⟨nat_lit 254, ⟨.type "code", .none , .fields #[.str (PySem.Str.ofString "_law_has") 514, .str (PySem.Str.ofString "_law_has") 515, .str (PySem.Str.ofString "/claim/cut.py") 516, .int 112 0, .int 2 0, .int 0 0, .int 0 0, .int 3 0, .ref 251, .bool .true, .int 181 0, .ref 252, .none, .none, .none, .ref 253, .int 517 0, .int 112 0, .str (PySem.Str.ofString "/claim/cut.py") 518], #[]⟩⟩ ::
⟨nat_lit 255, ⟨.type "function", .none , .func ⟨PySem.Str.ofString "_law_has", PySem.Str.ofString "_law_has", hArgs [27], .stmts (hBody [27]), hScope [27], 3, [], .none, .none, .none, .str (PySem.Str.ofString "law_darkdrawers_k22_next_drawers") 473, .none , .ref 254, .none, 0⟩, #[]⟩⟩ ::
⟨nat_lit 256, ⟨.type "tuple", .none , .seq #[] 0, #[]⟩⟩ ::
⟨nat_lit 258, ⟨.type "tuple", .none , .seq #[.str (PySem.Str.ofString "_law_stock_here") 523, .str (PySem.Str.ofString "_law_at") 524, .str (PySem.Str.ofString "_law_kind") 525, .str (PySem.Str.ofString "_law_row") 526] 0, #[]⟩⟩ ::
⟨nat_lit 259, ⟨.type "tuple", .none , .seq #[] 0, #[]⟩⟩ ::
⟨nat_lit 261, ⟨.type "code", .none , .fields #[.str (PySem.Str.ofString "_law_without") 520, .str (PySem.Str.ofString "_law_without") 521, .str (PySem.Str.ofString "/claim/cut.py") 522, .int 117 0, .int 3 0, .int 0 0, .int 0 0, .int 3 0, .ref 256, .bool .true, .int 181 0, .ref 257, .none, .ref 258, .ref 259, .ref 260, .int 527 0, .int 117 0, .str (PySem.Str.ofString "/claim/cut.py") 528], #[]⟩⟩ ::
⟨nat_lit 262, ⟨.type "function", .none , .func ⟨PySem.Str.ofString "_law_without", PySem.Str.ofString "_law_without", hArgs [28], .stmts (hBody [28]), hScope [28], 3, [], .none, .none, .none, .str (PySem.Str.ofString "law_darkdrawers_k22_next_drawers") 473, .none , .ref 261, .none, 0⟩, #[]⟩⟩ ::
⟨nat_lit 263, ⟨.type "tuple", .none , .seq #[] 0, #[]⟩⟩ ::
⟨nat_lit 265, ⟨.type "tuple", .none , .seq #[.str (PySem.Str.ofString "_law_counts") 533, .str (PySem.Str.ofString "_law_kind") 534] 0, #[]⟩⟩ ::
⟨nat_lit 266, ⟨.type "tuple", .none , .seq #[] 0, #[]⟩⟩ ::
⟨nat_lit 268, ⟨.type "code", .none , .fields #[.str (PySem.Str.ofString "_law_with") 530, .str (PySem.Str.ofString "_law_with") 531, .str (PySem.Str.ofString "/claim/cut.py") 532, .int 120 0, .int 2 0, .int 0 0, .int 0 0, .int 3 0, .ref 263, .bool .true, .int 181 0, .ref 264, .none, .ref 265, .ref 266, .ref 267, .int 535 0, .int 120 0, .str (PySem.Str.ofString "/claim/cut.py") 536], #[]⟩⟩ ::
⟨nat_lit 269, ⟨.type "function", .none , .func ⟨PySem.Str.ofString "_law_with", PySem.Str.ofString "_law_with", hArgs [29], .stmts (hBody [29]), hScope [29], 3, [], .none, .none, .none, .str (PySem.Str.ofString "law_darkdrawers_k22_next_drawers") 473, .none , .ref 268, .none, 0⟩, #[]⟩⟩ ::
⟨nat_lit 270, ⟨.type "tuple", .none , .seq #[] 0, #[]⟩⟩ ::
⟨nat_lit 272, ⟨.type "tuple", .none , .seq #[.str (PySem.Str.ofString "_law_known") 541, .str (PySem.Str.ofString "_law_stock_here") 542, .str (PySem.Str.ofString "_law_collections") 543, .str (PySem.Str.ofString "_law_counts") 544, .str (PySem.Str.ofString "_law_at") 545, .str (PySem.Str.ofString "_law_found") 546, .str (PySem.Str.ofString "_law_kind") 547, .str (PySem.Str.ofString "_law_less") 548, .str (PySem.Str.ofString "_law_more") 549] 0, #[]⟩⟩ ::
⟨nat_lit 273, ⟨.type "tuple", .none , .seq #[] 0, #[]⟩⟩ ::
⟨nat_lit 275, ⟨.type "code", .none , .fields #[.str (PySem.Str.ofString "_law_worst") 538, .str (PySem.Str.ofString "_law_worst") 539, .str (PySem.Str.ofString "/claim/cut.py") 540, .int 122 0, .int 5 0, .int 0 0, .int 0 0, .int 3 0, .ref 270, .bool .true, .int 181 0, .ref 271, .none, .ref 272, .ref 273, .ref 274, .int 550 0, .int 122 0, .str (PySem.Str.ofString "/claim/cut.py") 551], #[]⟩⟩ ::
⟨nat_lit 276, ⟨.type "function", .none , .func ⟨PySem.Str.ofString "_law_worst", PySem.Str.ofString "_law_worst", hArgs [30], .stmts (hBody [30]), hScope [30], 3, [], .none, .none, .none, .str (PySem.Str.ofString "law_darkdrawers_k22_next_drawers") 473, .none , .ref 275, .none, 0⟩, #[]⟩⟩ ::
⟨nat_lit 277, ⟨.type "tuple", .none , .seq #[] 0, #[]⟩⟩ ::
⟨nat_lit 280, ⟨.type "code", .none , .fields #[.str (PySem.Str.ofString "_law_further") 553, .str (PySem.Str.ofString "_law_further") 554, .str (PySem.Str.ofString "/claim/cut.py") 555, .int 129 0, .int 4 0, .int 0 0, .int 0 0, .int 3 0, .ref 277, .bool .true, .int 181 0, .ref 278, .none, .none, .none, .ref 279, .int 556 0, .int 129 0, .str (PySem.Str.ofString "/claim/cut.py") 557], #[]⟩⟩ ::
⟨nat_lit 281, ⟨.type "function", .none , .func ⟨PySem.Str.ofString "_law_further", PySem.Str.ofString "_law_further", hArgs [31], .stmts (hBody [31]), hScope [31], 3, [], .none, .none, .none, .str (PySem.Str.ofString "law_darkdrawers_k22_next_drawers") 473, .none , .ref 280, .none, 0⟩, #[]⟩⟩ ::
⟨nat_lit 282, ⟨.type "tuple", .none , .seq #[] 0, #[]⟩⟩ ::
⟨nat_lit 284, ⟨.type "tuple", .none , .seq #[.str (PySem.Str.ofString "_law_call") 562, .str (PySem.Str.ofString "e") 563, .str (PySem.Str.ofString "_law_is_other") 564] 0, #[]⟩⟩ ::
⟨nat_lit 285, ⟨.type "tuple", .none , .seq #[] 0, #[]⟩⟩ ::
⟨nat_lit 287, ⟨.type "code", .none , .fields #[.str (PySem.Str.ofString "_law_told") 559, .str (PySem.Str.ofString "_law_told") 560, .str (PySem.Str.ofString "/claim/cut.py") 561, .int 136 0, .int 1 0, .int 0 0, .int 0 0, .int 3 0, .ref 282, .bool .true, .int 181 0, .ref 283, .none, .ref 284, .ref 285, .ref 286, .int 565 0, .int 136 0, .str (PySem.Str.ofString "/claim/cut.py") 566], #[]⟩⟩ ::
⟨nat_lit 288, ⟨.type "function", .none , .func ⟨PySem.Str.ofString "_law_told", PySem.Str.ofString "_law_told", hArgs [32], .stmts (hBody [32]), hScope [32], 3, [], .none, .none, .none, .str (PySem.Str.ofString "law_darkdrawers_k22_next_drawers") 473, .none , .ref 287, .none, 0⟩, #[]⟩⟩ ::
⟨nat_lit 289, ⟨.type "tuple", .none , .seq #[] 0, #[]⟩⟩ ::
⟨nat_lit 292, ⟨.type "code", .none , .fields #[.str (PySem.Str.ofString "_law_due") 568, .str (PySem.Str.ofString "_law_due") 569, .str (PySem.Str.ofString "/claim/cut.py") 570, .int 144 0, .int 3 0, .int 0 0, .int 0 0, .int 3 0, .ref 289, .bool .true, .int 181 0, .ref 290, .none, .none, .none, .ref 291, .int 571 0, .int 144 0, .str (PySem.Str.ofString "/claim/cut.py") 572], #[]⟩⟩ ::
⟨nat_lit 293, ⟨.type "function", .none , .func ⟨PySem.Str.ofString "_law_due", PySem.Str.ofString "_law_due", hArgs [33], .stmts (hBody [33]), hScope [33], 3, [], .none, .none, .none, .str (PySem.Str.ofString "law_darkdrawers_k22_next_drawers") 473, .none , .ref 292, .none, 0⟩, #[]⟩⟩ ::
⟨nat_lit 294, ⟨.type "tuple", .none , .seq #[] 0, #[]⟩⟩ ::
⟨nat_lit 297, ⟨.type "code", .none , .fields #[.str (PySem.Str.ofString "law") 574, .str (PySem.Str.ofString "law") 575, .str (PySem.Str.ofString "/claim/cut.py") 576, .int 153 0, .int 1 0, .int 0 0, .int 0 0, .int 3 0, .ref 294, .bool .true, .int 181 0, .ref 295, .none, .none, .none, .ref 296, .int 577 0, .int 153 0, .str (PySem.Str.ofString "/claim/cut.py") 578], #[]⟩⟩ ::
⟨nat_lit 298, ⟨.type "function", .none , .func ⟨PySem.Str.ofString "law", PySem.Str.ofString "law", hArgs [34], .stmts (hBody [34]), hScope [34], 3, [], .none, .none, .none, .str (PySem.Str.ofString "law_darkdrawers_k22_next_drawers") 473, .none , .ref 297, .none, 0⟩, #[]⟩⟩ :: [] : List (Nat × Obj))
def hA : List Nat := 295 :: 2 :: 3 :: 15 :: 22 :: 23 :: 24 :: 25 :: 28 :: 35 :: 37 :: 38 :: 40 :: 41 :: 42 :: 43 :: 44 :: 47 :: 54 :: 56 :: 57 :: 59 :: 60 :: 61 :: 62 :: 63 :: 66 :: 73 :: 75 :: 76 :: 78 :: 79 :: 80 :: 81 :: 82 :: 85 :: 92 :: 94 :: 95 :: 97 :: 98 :: 99 :: 100 :: 101 :: 104 :: 111 :: 113 :: 114 :: 116 :: 117 :: 118 :: 119 :: 120 :: 123 :: 130 :: 132 :: 133 :: 135 :: 136 :: 137 :: 138 :: 139 :: 142 :: 145 :: 146 :: 147 :: 150 :: 151 :: 152 :: 155 :: 156 :: 157 :: 159 :: 160 :: 162 :: 163 :: 164 :: 167 :: 168 :: 169 :: 171 :: 172 :: 174 :: 175 :: 183 :: 185 :: 186 :: 188 :: 189 :: 190 :: 193 :: 194 :: 195 :: 198 :: 199 :: 200 :: 203 :: 204 :: 205 :: 206 :: 207 :: 208 :: 209 :: 212 :: 214 :: 215 :: 217 :: 218 :: 219 :: 222 :: 223 :: 224 :: 227 :: 228 :: 229 :: 231 :: 232 :: 234 :: 235 :: 236 :: 239 :: 240 :: 241 :: 244 :: 245 :: 246 :: 249 :: 250 :: 251 :: 254 :: 255 :: 256 :: 258 :: 259 :: 261 :: 262 :: 263 :: 265 :: 266 :: 268 :: 269 :: 270 :: 272 :: 273 :: 275 :: 276 :: 277 :: 280 :: 281 :: 282 :: 284 :: 285 :: 287 :: 288 :: 289 :: 292 :: 293 :: 294 :: 297 :: 298 :: []
theorem hE : ∀ P, hA = (hK P).map (·.1) := fun _ => by kernel_rfl
def hPick {α : Type} (k : List Nat) (l : List α) : List α := k.filterMap fun i => l[i]?
def hq : Program := { PySem.Challenge.pw_darkdrawers_k22_next_drawers with main := { PySem.Challenge.pw_darkdrawers_k22_next_drawers.main with body := hPick [0, 2, 3, 4, 5, 6, 7, 8, 10, 11, 13, 14, 16, 17, 18, 19, 20, 22, 23, 24, 25, 26, 27, 28, 29, 30, 31, 32, 33, 34] PySem.Challenge.pw_darkdrawers_k22_next_drawers.main.body } }
def hL : List PySem.Str := []
noncomputable def hX (w : World) (os : OsState) : Option SharedT := endF (stepQ (denQ tabQ) PySem.Challenge.pw_darkdrawers_k22_next_drawers w) 2731 PySem.Challenge.pw_darkdrawers_k22_next_drawers w os
noncomputable def hS (s : SharedT) := seenQ hq hL (importedModules PySem.Challenge.pw_darkdrawers_k22_next_drawers.main.body) (fun s => xlAt hq [] s && recOk (RowW.records (OpenRow.toRowW (OpenLaw.row PySem.Challenge.rw_darkdrawers_k22_next_drawers))) s) s.abs
theorem hComb {σ α β : Type} {X : Option σ} {f : σ → α} {g : σ → β} {a : α} {b : β} (h1 : X.map f = some a) (h2 : X.map g = some b) : X.map (fun s => (f s, g s)) = some (a, b) := by
  cases X with
  | none => cases h1
  | some s =>
    have e1 : f s = a := Option.some.inj h1
    have e2 : g s = b := Option.some.inj h2
    show some (f s, g s) = some (a, b)
    rw [e1, e2]
theorem hFst {σ α β : Type} {X : Option σ} {f : σ → α} {g : σ → β} {a : α} {b : β} (h : X.map (fun s => (f s, g s)) = some (a, b)) : X.map f = some a := by
  cases X with
  | none => cases h
  | some s => exact congrArg (Option.map Prod.fst) h
theorem hSnd {σ α β : Type} {X : Option σ} {f : σ → α} {g : σ → β} {a : α} {b : β} (h : X.map (fun s => (f s, g s)) = some (a, b)) : X.map g = some b := by
  cases X with
  | none => cases h
  | some s => exact congrArg (Option.map Prod.snd) h
def hW : List PySem.Str := []
theorem hLW : looseW hq hL = hW := by kernel_rfl
theorem hG0 (w : World) (os : OsState) : (hX w os).map (fun s => (looksF PySem.Challenge.pw_darkdrawers_k22_next_drawers (boot_heap w.params) s.abs, ((hS s).2.1, ((hS s).2.2.2.2.2.2.1, ((hS s).2.2.2.2.2.2.2.2, (hA.map (getT s), (hS s).2.2.2.2.1)))))) = some ((true, (bltViewBooted, (plainGoodD hq hL, (clsGoodW hq hL, ((hK w.params).map fun x => some x.2, pinGoodD (drecsOf hq))))))) := by kernel_rfl
theorem hP9 (w : World) (os : OsState) : (hX w os).map (fun s => looksF PySem.Challenge.pw_darkdrawers_k22_next_drawers (boot_heap w.params) s.abs) = some (true) := (hFst (hG0 w os))
theorem hP1 (w : World) (os : OsState) : (hX w os).map (fun s => (hS s).2.1) = some (bltViewBooted) := (hFst (hSnd (hG0 w os)))
theorem hP6 (w : World) (os : OsState) : (hX w os).map (fun s => (hS s).2.2.2.2.2.2.1) = some (plainGoodD hq hL) := (hFst (hSnd (hSnd (hG0 w os))))
theorem hP8 (w : World) (os : OsState) : (hX w os).map (fun s => (hS s).2.2.2.2.2.2.2.2) = some (clsGoodW hq hL) := (hFst (hSnd (hSnd (hSnd (hG0 w os)))))
theorem hP10 (w : World) (os : OsState) : (hX w os).map (fun s => hA.map (getT s)) = some ((hK w.params).map fun x => some x.2) := (hFst (hSnd (hSnd (hSnd (hSnd (hG0 w os))))))
theorem hP4 (w : World) (os : OsState) : (hX w os).map (fun s => (hS s).2.2.2.2.1) = some (pinGoodD (drecsOf hq)) := (hSnd (hSnd (hSnd (hSnd (hSnd (hG0 w os))))))
theorem hG1 (w : World) (os : OsState) : (hX w os).map (fun s => (hS s).1) = some (expectedOf hq) := by kernel_rfl
theorem hP0 (w : World) (os : OsState) : (hX w os).map (fun s => (hS s).1) = some (expectedOf hq) := (hG1 w os)
theorem hG2 (w : World) (os : OsState) : (hX w os).map (fun s => (hS s).2.2.1) = some (true) := by kernel_rfl
theorem hP2 (w : World) (os : OsState) : (hX w os).map (fun s => (hS s).2.2.1) = some (true) := (hG2 w os)
theorem hG3 (w : World) (os : OsState) : (hX w os).map (fun s => (hS s).2.2.2.1) = some (true) := by kernel_rfl
theorem hP3 (w : World) (os : OsState) : (hX w os).map (fun s => (hS s).2.2.2.1) = some (true) := (hG3 w os)
theorem hG4 (w : World) (os : OsState) : (hX w os).map (fun s => (hS s).2.2.2.2.2.2.2.1) = some (wideGood hq) := by kernel_rfl
theorem hP7 (w : World) (os : OsState) : (hX w os).map (fun s => (hS s).2.2.2.2.2.2.2.1) = some (wideGood hq) := (hG4 w os)
theorem hG5 (w : World) (os : OsState) : (hX w os).map (fun s => (hS s).2.2.2.2.2.1) = some (plainGoodE hq hW) := by kernel_rfl
theorem hP5 (w : World) (os : OsState) : (hX w os).map (fun s => (hS s).2.2.2.2.2.1) = some (plainGoodE hq hW) := (hG5 w os)
theorem hP50 (w : World) (os : OsState) : (hX w os).map (fun s => (hS s).2.2.2.2.2.1) = some (plainGoodE hq (looseW hq hL)) := by rw [hLW]; exact hP5 w os
theorem hSeen (w : World) (os : OsState) : (hX w os).map hS = some (openGood hq hL) := hComb (hP0 w os) (hComb (hP1 w os) (hComb (hP2 w os) (hComb (hP3 w os) (hComb (hP4 w os) (hComb (hP50 w os) (hComb (hP6 w os) (hComb (hP7 w os) (hP8 w os))))))))
theorem hRun (w : World) : RunEq (OpenLaw.row PySem.Challenge.rw_darkdrawers_k22_next_drawers) hq (kHook hK hA hE) (fun s => hA.map (getT s)) 2731 hL w := fun os => hComb (hP9 w os) (hComb (hSeen w os) (hP10 w os))
theorem hOb : ∀ s : SharedT, hA.map (getT s) = (kHook hK hA hE).obs s.abs := fun s => List.map_congr_left fun a _ => getT_eq s a
end DD
namespace DD
open PySem PySem.Spec PyProof.Rows L2
abbrev D := PyData
/-- an error: its class, its fields -/
structure Exn where
  cls : Str
  fs : List (Str × D)
/-- what may change: an instance (its class's name, its fields), a list -/
inductive Cell where
  | ins (c : Str) (fs : List (Str × D))
  | lst (ds : List D)
  /-- a dict from stocks (tuples of tuples of ints) to ints -/
  | dic (kvs : List (List (List Int) × Int))
  /-- the table at P of code objects of the name q (of lambdas); it may grow -/
  | tab (P : Addr) (q : Str)
/-- the world of a mirror: the number of draws (at most), the things that may change -/
structure Wd where
  n : Nat
  ob : List Cell
instance {n : Nat} : OfNat Wd n := ⟨⟨n, []⟩⟩
/-- a mirror's monad: what holds behind a run that begins at n -/
class Mo (m : Type → Type) extends Monad m where
  sat : {α : Type} → m α → Wd → (α → Wd → Prop) → (Exn → Wd → Prop) → Prop
  lift : {α : Type} → Option α → m α
  sat_pure : ∀ {α : Type} {a : α} {n : Wd} {φ : α → Wd → Prop} {ξ : Exn → Wd → Prop}, sat (pure a) n φ ξ → φ a n
  sat_bind : ∀ {α β : Type} {x : m α} {f : α → m β} {n : Wd} {φ : β → Wd → Prop} {ξ : Exn → Wd → Prop}, sat (x >>= f) n φ ξ → sat x n (fun a n' => sat (f a) n' φ ξ) ξ
  sat_lift : ∀ {α : Type} {o : Option α} {n : Wd} {φ : α → Wd → Prop} {ξ : Exn → Wd → Prop}, sat (lift o) n φ ξ → ∃ a, o = some a ∧ φ a n
instance : Mo Option where
  sat := fun o n φ _ => n.ob = [] ∧ ∃ a, o = some a ∧ φ a n
  lift := fun o => o
  sat_pure := fun h => by obtain ⟨_, a, e, q⟩ := h; cases e; exact q
  sat_bind := fun {α β x f n φ ξ} h => by
    obtain ⟨hn, b, e, q⟩ := h
    cases x with
    | none => cases e
    | some a => exact ⟨hn, a, rfl, hn, b, e, q⟩
  sat_lift := fun h => h.2
/-- the wishes themselves as a mirror (no error leaves; nothing else changes) -/
def W (α : Type) : Type := Nat → (α → Nat → Prop) → Prop
instance : Mo W where
  pure := fun a n φ => φ a n
  bind := fun x f n φ => x n (fun a n' => f a n' φ)
  sat := fun w s φ _ => s.ob = [] ∧ w s.n (fun a n' => φ a ⟨n', []⟩)
  lift := fun o n φ => ∃ a, o = some a ∧ φ a n
  sat_pure := fun {α a n φ ξ} h => by
    obtain ⟨h1, h2⟩ := h
    obtain ⟨k, ob⟩ := n
    cases h1
    exact h2
  sat_bind := fun {α β x f n φ ξ} h => by
    obtain ⟨h1, h2⟩ := h
    refine ⟨h1, ?_⟩
    have e : (fun a (n' : Nat) => (⟨n', []⟩ : Wd).ob = [] ∧ f a n' (fun b n' => φ b ⟨n', []⟩)) = fun a n' => f a n' (fun b n' => φ b ⟨n', []⟩) := by
      funext a n'
      exact propext ⟨fun h => h.2, fun h => ⟨rfl, h⟩⟩
    show x n.n (fun a (n' : Nat) => (⟨n', []⟩ : Wd).ob = [] ∧ f a n' (fun b n' => φ b ⟨n', []⟩))
    rw [e]
    exact h2
  sat_lift := fun {α o n φ ξ} h => by
    obtain ⟨h1, a, e, h2⟩ := h
    obtain ⟨k, ob⟩ := n
    cases h1
    exact ⟨a, e, h2⟩
/-- a mirror that sees no thing that may change, where there is none -/
class Plain (m : Type → Type) [Mo m] : Prop where
  plain : ∀ {α : Type} {x : m α} {n : Wd} {φ : α → Wd → Prop} {ξ : Exn → Wd → Prop}, Mo.sat x n φ ξ → n.ob = [] ∧ Mo.sat x n (fun a n' => n'.ob = [] ∧ φ a n') (fun e n' => n'.ob = [] ∧ ξ e n')
instance : Plain Option := ⟨fun ⟨h, a, e, q⟩ => ⟨h, h, a, e, h, q⟩⟩
instance : Plain W := ⟨fun {α x n φ ξ} h => by
  obtain ⟨h1, h2⟩ := h
  refine ⟨h1, h1, ?_⟩
  have e : (fun (a : α) (n' : Nat) => (⟨n', []⟩ : Wd).ob = [] ∧ φ a ⟨n', []⟩) = fun a n' => φ a ⟨n', []⟩ := by
    funext a n'
    exact propext ⟨fun h => h.2, fun h => ⟨rfl, h⟩⟩
  show x n.n (fun a (n' : Nat) => (⟨n', []⟩ : Wd).ob = [] ∧ φ a ⟨n', []⟩)
  rw [e]
  exact h2⟩
/-- no error comes out of it -/
class Calm (m : Type → Type) [Mo m] : Prop where
  calm : ∀ {α : Type} {x : m α} {n : Wd} {φ : α → Wd → Prop} {ξ ξ' : Exn → Wd → Prop}, Mo.sat x n φ ξ → Mo.sat x n φ ξ'
instance : Calm Option := ⟨fun h => h⟩
instance : Calm W := ⟨fun h => h⟩
/-! ### data in the heap -/
def keyD : Key → D
  | .inl i => .int i
  | .inr x => .str x
/-- a value that is no reference, as data -/
def flat : V → Bool
  | .non => true
  | .bl _ => true
  | .int _ => true
  | .str _ => true
  | _ => false
def flatD : V → D
  | .bl b => .bool b
  | .int i => .int i
  | .str x => .str x
  | _ => .none
/-- the class of the name c -/
structure ClsOk (K : PySem.W.Frag) (c : Str) (C : Addr) : Prop where
  nm : PySem.W.nsIn K mainGlobals c = some (some (.ref C))
  cl : Cls K C
  ha : PySem.W.findIn K (.ref C) "__class__" = some (some (.builtin "object.__class__"))
  hn : PySem.W.specialIn K (.builtin "object.__class__") "__get__" = some (some (.builtin "getset_descriptor.__get__"))
  ht : PySem.W.takesIn K (.builtin "object.__class__") = some true
  hm : PySem.W.mroIn K C (.type "object") = some true
  kit : (["NoneType", "bool", "int", "str", "list", "tuple", "dict"].all fun T => PySem.W.kitOne K (.ref C) (.type T) == some false) = true
/-- a thing that may change, as data: it can be neither shown nor compared -/
def bigI : Int := 2 ^ 2000
def refD (k : Nat) : D := .dict [(.none, .int (bigI + k))]
def refL (k : Nat) : D := .dict [(.bool false, .int (bigI + k))]
/-- an instance that does not change any more, as data: its class, its fields -/
def insD (c : Str) (fs : List (Str × D)) : D := .dict ((.bool true, .int bigI) :: (.none, .str c) :: fs.map fun p => (.str p.1, p.2))
mutual
inductive Da (K : PySem.W.Frag) (G : Hp) : V → D → Prop
  | non : Da K G .non .none
  | bl (b : Bool) : Da K G (.bl b) (.bool b)
  | int (i : Int) : Da K G (.int i) (.int i)
  | str (x : Str) : Da K G (.str x) (.str x)
  | lst {a : Addr} {xs : List V} {ds : List D} : G a = some (.lst xs) → DaAll K G xs ds → Da K G (.ref a) (.list ds)
  | tup {a : Addr} {xs : List V} {ds : List D} : SqT K G a xs → DaAll K G xs ds → Da K G (.ref a) (.tuple ds)
  | dct {a : Addr} {kvs : List (Key × V)} : G a = some (.dK kvs) → (∀ p ∈ kvs, flat p.2 = true) → Da K G (.ref a) (.dict (kvs.map fun p => (keyD p.1, flatD p.2)))
  | obj {a : Addr} {k : Nat} : G a = some (.own k) → Da K G (.ref a) (.dict [(.none, .int (bigI + k))])
  | cel {a : Addr} {k : Nat} : G a = some (.met k k) → Da K G (.ref a) (.dict [(.bool false, .int (bigI + k))])
  | fin {a C dx : Addr} {c : Str} {vs : List (Str × V)} {fs : List (Str × D)} : G a = some (.ins C dx vs) → ClsOk K c C → vs.map (·.1) = fs.map (·.1) → DaAll K G (vs.map (·.2)) (fs.map (·.2)) → Da K G (.ref a) (.dict ((.bool true, .int bigI) :: (.none, .str c) :: fs.map fun p => (.str p.1, p.2)))
inductive DaAll (K : PySem.W.Frag) (G : Hp) : List V → List D → Prop
  | nil : DaAll K G [] []
  | cons {v : V} {vs : List V} {d : D} {ds : List D} : Da K G v d → DaAll K G vs ds → DaAll K G (v :: vs) (d :: ds)
end
/-- marks of things that may change: an instance, a list -/
def mkOf : HO → Option Nat
  | .own k => some k
  | .met k _ => some k
  | _ => none
def isMk (o : HO) : Bool := (mkOf o).isSome
/-- the data stand in the heap; a mark of G stands for a thing that may change -/
structure SubM (G H : Hp) : Prop where
  h : ∀ a o, G a = some o → isMk o = false → H a = some o
  t : ∀ a, H a = none → G a = none
theorem SubM.sT {K : PySem.W.Frag} {H H' : Hp} {a : Addr} {xs : List V} (e : SubM H H') (h : SqT K H a xs) : SqT K H' a xs := by
  rcases h with (h | ⟨o, h⟩) | h
  · exact .inl (.inl (e.h _ _ h rfl))
  · exact .inl (.inr ⟨o, e.h _ _ h rfl⟩)
  · exact .inr h
theorem SubM.seq {K : PySem.W.Frag} {H H' : Hp} {a : Addr} {xs : List V} (e : SubM H H') (h : SqL K H a xs) : SqL K H' a xs := by
  rcases h with (h | ⟨o, h⟩) | h
  · exact .inl (.inl (e.h _ _ h rfl))
  · exact .inl (.inr ⟨o, e.h _ _ h rfl⟩)
  · exact .inr h
theorem SubM.trans {G H H' : Hp} (e : SubM G H) (s : Same H H') : SubM G H' := ⟨fun a o h m => s _ _ (e.h a o h m), fun a h => e.t a (s.free h)⟩
theorem _root_.L2.Same.subm {G G' H : Hp} (s : Same G G') (e : SubM G' H) : SubM G H := ⟨fun a o h m => e.h a o (s _ _ h) m, fun a h => s.free (e.t a h)⟩
theorem sameT' {K : PySem.W.Frag} {H H' : Hp} {a : Addr} {xs : List V} (e : Same H H') (h : SqT K H a xs) : SqT K H' a xs := by
  rcases h with (h | ⟨o, h⟩) | h
  · exact .inl (.inl (e _ _ h))
  · exact .inl (.inr ⟨o, e _ _ h⟩)
  · exact .inr h
theorem sameT {K : PySem.W.Frag} {H H' : Hp} {a : Addr} {xs : List V} (e : SubM H H') (h : SqT K H a xs) : SqT K H' a xs := e.sT h
section
variable {K : PySem.W.Frag} {G G' H H' : Hp}
mutual
theorem Da.mono (e : Same G G') : ∀ {d : D} {v : V}, Da K G v d → Da K G' v d
  | _, _, .non => .non
  | _, _, .bl b => .bl b
  | _, _, .int i => .int i
  | _, _, .str x => .str x
  | _, _, .lst h a => .lst (e _ _ h) (DaAll.mono e a)
  | _, _, .tup h a => .tup (sameT' e h) (DaAll.mono e a)
  | _, _, .dct h a => .dct (e _ _ h) a
  | _, _, .obj h => .obj (e _ _ h)
  | _, _, .cel h => .cel (e _ _ h)
  | _, _, .fin h k l a => .fin (e _ _ h) k l (DaAll.mono e a)
theorem DaAll.mono (e : Same G G') : ∀ {ds : List D} {vs : List V}, DaAll K G vs ds → DaAll K G' vs ds
  | _, _, .nil => .nil
  | _, _, .cons a b => .cons (Da.mono e a) (DaAll.mono e b)
end
theorem DaAll.length : ∀ {vs : List V} {ds : List D}, DaAll K G vs ds → vs.length = ds.length
  | _, _, .nil => rfl
  | _, _, .cons _ b => by simp [DaAll.length b]
theorem DaAll.get : ∀ {vs : List V} {ds : List D} {i : Nat} {d : D}, DaAll K G vs ds → ds[i]? = some d → ∃ v, vs[i]? = some v ∧ Da K G v d
  | _, _, _, _, .nil, e => by simp at e
  | _, _, 0, _, .cons a _, e => by simp at e; subst e; exact ⟨_, rfl, a⟩
  | _, _, i + 1, d, .cons _ b, e => by
    obtain ⟨v, h1, h2⟩ := DaAll.get (i := i) (d := d) b (by simpa using e)
    exact ⟨v, by simpa using h1, h2⟩
theorem DaAll.getV : ∀ {vs : List V} {ds : List D} {i : Nat} {v : V}, DaAll K G vs ds → vs[i]? = some v → ∃ d, ds[i]? = some d ∧ Da K G v d
  | _, _, _, _, .nil, e => by simp at e
  | _, _, 0, _, .cons a _, e => by simp at e; subst e; exact ⟨_, rfl, a⟩
  | _, _, i + 1, v, .cons _ b, e => by
    obtain ⟨d, h1, h2⟩ := DaAll.getV (i := i) (v := v) b (by simpa using e)
    exact ⟨d, by simpa using h1, h2⟩
theorem DaAll.append : ∀ {vs ws : List V} {ds es : List D}, DaAll K G vs ds → DaAll K G ws es → DaAll K G (vs ++ ws) (ds ++ es)
  | _, _, _, _, .nil, b => b
  | _, _, _, _, .cons a r, b => .cons a (DaAll.append r b)
theorem DaAll.one {v : V} {d : D} (h : Da K G v d) : DaAll K G [v] [d] := .cons h .nil
theorem DaAll.take : ∀ {vs : List V} {ds : List D} (n : Nat), DaAll K G vs ds → DaAll K G (vs.take n) (ds.take n)
  | _, _, 0, _ => .nil
  | _, _, _ + 1, .nil => .nil
  | _, _, n + 1, .cons a b => .cons a (DaAll.take n b)
theorem DaAll.drop : ∀ {vs : List V} {ds : List D} (n : Nat), DaAll K G vs ds → DaAll K G (vs.drop n) (ds.drop n)
  | _, _, 0, h => h
  | _, _, _ + 1, .nil => .nil
  | _, _, n + 1, .cons _ b => DaAll.drop n b
theorem DaAll.set {v : V} {d : D} (h : Da K G v d) : ∀ {vs : List V} {ds : List D} (n : Nat), DaAll K G vs ds → DaAll K G (vs.set n v) (ds.set n d)
  | _, _, _, .nil => .nil
  | _, _, 0, .cons _ b => .cons h b
  | _, _, n + 1, .cons a b => .cons a (DaAll.set h n b)
theorem DaAll.replicate {v : V} {d : D} (h : Da K G v d) : ∀ n : Nat, DaAll K G (List.replicate n v) (List.replicate n d)
  | 0 => .nil
  | n + 1 => .cons h (DaAll.replicate h n)
theorem DaAll.flatReplicate {vs : List V} {ds : List D} (h : DaAll K G vs ds) : ∀ n : Nat, DaAll K G (List.replicate n vs).flatten (List.replicate n ds).flatten
  | 0 => .nil
  | n + 1 => by
    rw [List.replicate_succ, List.replicate_succ, List.flatten_cons, List.flatten_cons]
    exact h.append (DaAll.flatReplicate h n)
theorem daInts : ∀ ns : List Int, DaAll K G (ns.map V.int) (ns.map PyData.int)
  | [] => .nil
  | n :: r => .cons (.int n) (daInts r)
theorem DaAll.ints : ∀ {vs : List V} {ns : List Int}, DaAll K G vs (ns.map PyData.int) → vs = ns.map V.int
  | [], [], _ => rfl
  | _ :: _, n :: ns, .cons a b => by
    cases a
    rw [List.map_cons, DaAll.ints b]
end
/-! ### data without things that may change -/
mutual
def okD : D → Bool
  | .none => true
  | .bool _ => true
  | .int _ => true
  | .str _ => true
  | .list ds => okDs ds
  | .tuple ds => okDs ds
  | .dict kvs => okK kvs
def okDs : List D → Bool
  | [] => true
  | d :: ds => okD d && okDs ds
def okK : List (D × D) → Bool
  | (.none, _) :: _ => false
  | (.bool _, _) :: _ => false
  | _ => true
end
mutual
theorem ok_canLay : ∀ d : D, d.canLay0 = true → okD d = true
  | .none, _ => rfl
  | .bool _, _ => rfl
  | .int _, _ => rfl
  | .str _, _ => rfl
  | .list ds, h => ok_canLays ds (by simpa [PyData.canLay0] using h)
  | .tuple ds, h => ok_canLays ds (by simpa [PyData.canLay0] using h)
  | .dict _, h => by simp [PyData.canLay0] at h
theorem ok_canLays : ∀ ds : List D, PyData.canLayAll0 ds = true → okDs ds = true
  | [], _ => rfl
  | d :: ds, h => by
    simp only [PyData.canLayAll0, Bool.and_eq_true] at h
    simp only [okDs, Bool.and_eq_true]
    exact ⟨ok_canLay d h.1, ok_canLays ds h.2⟩
end
theorem big_no (k : Nat) : PyData.showable (.int (bigI + k)) = false := by
  simp only [PyData.showable, decide_eq_false_iff_not, Nat.not_lt]
  have e : (bigI + (k : Int)).natAbs = 2 ^ 2000 + k := by
    unfold bigI
    rw [show ((2 : Int) ^ 2000) = ((2 ^ 2000 : Nat) : Int) from by norm_cast, ← Int.natCast_add]
    exact Int.natAbs_natCast _
  rw [e]
  exact (Nat.le_log2 (Nat.ne_of_gt (Nat.lt_of_lt_of_le (Nat.two_pow_pos 2000) (Nat.le_add_right _ _)))).mpr (Nat.le_trans (Nat.pow_le_pow_right (by decide) (by decide : 1920 ≤ 2000)) (Nat.le_add_right _ _))
/-- the dict of sys.modules is none of ours -/
def Sys (X : Cx) : Prop := ∃ o es ep, X.base.get? sysModules = some o ∧ o.data = .dict es ep
section
variable {X : Cx} {pins : List (Addr × Obj)} {σ : L2.St} {H : Hp} {s : Shared}
theorem ne_sysL (hy : Sys X) (I : Inv X pins σ H s) {a : Addr} {xs : List V} (h : SqL X.K H a xs) : a ≠ sysModules := by
  rintro rfl
  obtain ⟨o, es, ep, e, d⟩ := hy
  obtain ⟨its, _, ⟨o', n, e', _, _, d'⟩, _⟩ := I.list h
  rw [(I.bs _ _ e).1] at e'
  cases e'
  rw [d] at d'
  cases d'
theorem flat_reads {v : V} {u : Value} (f : flat v = true) (r : RelV v u) : ∀ h : Heap, Reads h u (flatD v) [] := fun h => by
  cases v with
  | non => cases r; exact Reads.none
  | bl b => cases r; exact Reads.bool b
  | int i => obtain ⟨t, rfl⟩ := r; exact Reads.int i t
  | str x => obtain ⟨t, rfl⟩ := r; exact Reads.str x t
  | _ => cases f
theorem pairs_reads {h : Heap} : ∀ {es : List DictEntry} {vs : List (Key × Value)} {kvs : List (Key × V)}, Pairs (mixKind X.prog X.w) es vs → KV kvs vs → (∀ p ∈ kvs, flat p.2 = true) →
    ReadsAll h (es.map (·.key)) ((kvs.map fun p => (keyD p.1, flatD p.2)).map (·.1)) [] ∧ ReadsAll h (es.map (·.val)) ((kvs.map fun p => (keyD p.1, flatD p.2)).map (·.2)) []
  | _, _, _, .nil, .nil, _ => ⟨.nil, .nil⟩
  | _, _, _, .cons hk hv t, .cons r rr, f => by
    obtain ⟨h1, h2⟩ := pairs_reads (h := h) t rr fun p hp => f p (List.mem_cons_of_mem _ hp)
    obtain ⟨e1, r1⟩ := r
    refine ⟨ReadsAll.cons (as := []) (bs := []) ?_ h1, ReadsAll.cons (as := []) (bs := []) ?_ h2⟩
    · rcases keyIs_shape (show keyIs _ _ = true from hk) with ⟨i, t, ek, ev⟩ | ⟨x, t, ek, ev⟩
      · dsimp only
        rw [ev, e1, ek]
        exact Reads.int i t
      · dsimp only
        rw [ev, e1, ek]
        exact Reads.str x t
    · dsimp only
      rw [hv]
      exact flat_reads (f _ List.mem_cons_self) r1 h
mutual
theorem Da.reads (hy : Sys X) (I : Inv X pins σ H s) : ∀ (d : D) (v : V) (u : Value), Da X.K H v d → okD d = true → RelV v u → ∃ as, Reads s.heap u d as ∧ sysModules ∉ as
  | .none, _, _, h, _, r => by
    cases h
    cases r
    exact ⟨_, Reads.none, by simp⟩
  | .bool b, _, _, h, _, r => by
    cases h
    cases r
    exact ⟨_, Reads.bool b, by simp⟩
  | .int i, _, _, h, _, r => by
    cases h
    obtain ⟨t, rfl⟩ := r
    exact ⟨_, Reads.int i t, by simp⟩
  | .str x, _, _, h, _, r => by
    cases h
    obtain ⟨t, rfl⟩ := r
    exact ⟨_, Reads.str x t, by simp⟩
  | .list ds, _, _, h, ok, r => by
    cases h with
    | lst hs ha =>
      cases r
      obtain ⟨its, rv, ⟨o, n, ho, hc, _, hd⟩, _⟩ := I.list (SqL.of hs)
      obtain ⟨as, hr, hn⟩ := Da.readsAll hy I ds _ its ha ok rv
      refine ⟨_, Reads.list ho hc hd hr, fun hm => ?_⟩
      rcases List.mem_cons.mp hm with e | e
      · exact ne_sysL hy I (SqL.of hs) e.symm
      · exact hn e
  | .tuple ds, _, _, h, ok, r => by
    cases h with
    | tup hs ha =>
      cases r
      obtain ⟨its, rv, ⟨o, ho, hc, n, hd⟩, _⟩ := I.tuple hs
      obtain ⟨as, hr, hn⟩ := Da.readsAll hy I ds _ its ha ok rv
      exact ⟨_, Reads.tuple ho hc hd hr, hn⟩
  | .dict kvs, _, _, h, ok, r => by
    cases h with
    | dct hs hf =>
      cases r
      obtain ⟨z, y, vs, kv, o, es, ep, ho, hx, hd, _, hp, _⟩ := I.hok _ _ hs
      obtain ⟨h1, h2⟩ := pairs_reads (h := s.heap) hp kv hf
      refine ⟨_, Reads.dict ho hx.1 hd h1 h2, fun hm => ?_⟩
      rcases List.mem_cons.mp hm with e | e
      · rw [← e] at y
        exact absurd y (by decide)
      · simp at e
    | obj hs => cases ok
    | cel hs => cases ok
    | fin _ _ _ _ => cases ok
theorem Da.readsAll (hy : Sys X) (I : Inv X pins σ H s) : ∀ (ds : List D) (vs : List V) (us : List Value), DaAll X.K H vs ds → okDs ds = true → Vals vs us → ∃ as, ReadsAll s.heap us ds as ∧ sysModules ∉ as
  | [], _, _, h, _, r => by
    cases h
    cases r
    exact ⟨_, ReadsAll.nil, by simp⟩
  | d :: ds, _, _, h, ok, r => by
    cases h with
    | cons h1 h2 =>
      cases r with
      | cons r1 r2 =>
        simp only [okDs, Bool.and_eq_true] at ok
        obtain ⟨as, q1, n1⟩ := Da.reads hy I d _ _ h1 ok.1 r1
        obtain ⟨bs, q2, n2⟩ := Da.readsAll hy I ds _ _ h2 ok.2 r2
        exact ⟨_, ReadsAll.cons q1 q2, by simp [n1, n2]⟩
end
end
section
variable {K : PySem.W.Frag} {G H : Hp}
mutual
theorem Da.toH (e : SubM G H) : ∀ {d : D} {v : V}, Da K G v d → okD d = true → Da K H v d
  | _, _, .non, _ => .non
  | _, _, .bl b, _ => .bl b
  | _, _, .int i, _ => .int i
  | _, _, .str x, _ => .str x
  | _, _, .lst h a, ok => .lst (e.h _ _ h rfl) (DaAll.toH e a ok)
  | _, _, .tup h a, ok => .tup (sameT e h) (DaAll.toH e a ok)
  | _, _, .dct h a, _ => .dct (e.h _ _ h rfl) a
  | _, _, .obj h, ok => by cases ok
  | _, _, .cel h, ok => by cases ok
  | _, _, .fin _ _ _ _, ok => by cases ok
theorem DaAll.toH (e : SubM G H) : ∀ {ds : List D} {vs : List V}, DaAll K G vs ds → okDs ds = true → DaAll K H vs ds
  | _, _, .nil, _ => .nil
  | _, _, .cons a b, ok => by
    simp only [okDs, Bool.and_eq_true] at ok
    exact .cons (Da.toH e a ok.1) (DaAll.toH e b ok.2)
end
mutual
theorem Da.okS : ∀ {d : D} {v : V}, Da K G v d → d.showable = true → okD d = true
  | _, _, .non, _ => rfl
  | _, _, .bl b, _ => rfl
  | _, _, .int i, _ => rfl
  | _, _, .str x, _ => rfl
  | _, _, .lst h a, ok => DaAll.okS a (by simpa [PyData.showable] using ok)
  | _, _, .tup h a, ok => DaAll.okS a (by simpa [PyData.showable] using ok)
  | _, _, .dct (kvs := kvs) h a, _ => by
    cases kvs with
    | nil => rfl
    | cons p r =>
      obtain ⟨k, v⟩ := p
      cases k <;> rfl
  | _, _, .obj (k := k) h, ok => by
    have : PyData.showable (.dict [(.none, .int (bigI + k))]) = (PyData.showable .none && PyData.showable (.int (bigI + k)) && true) := by simp only [PyData.showable, PyData.showableKv]
    rw [this, big_no] at ok
    simp at ok
  | _, _, .cel (k := k) h, ok => by
    have : PyData.showable (.dict [(.bool false, .int (bigI + k))]) = (PyData.showable (.bool false) && PyData.showable (.int (bigI + k)) && true) := by simp only [PyData.showable, PyData.showableKv]
    rw [this, big_no] at ok
    simp at ok
  | _, _, .fin (c := c) (fs := fs) _ _ _ _, ok => by
    have : PyData.showable (.dict ((.bool true, .int bigI) :: (.none, .str c) :: fs.map fun p => (PyData.str p.1, p.2))) = (PyData.showable (.bool true) && PyData.showable (.int bigI) && PyData.showableKv ((.none, .str c) :: fs.map fun p => (PyData.str p.1, p.2))) := by simp only [PyData.showable, PyData.showableKv]
    have e : PyData.showable (.int bigI) = false := by
      have := big_no 0
      rwa [Int.natCast_zero, Int.add_zero] at this
    rw [this, e] at ok
    simp at ok
theorem DaAll.okS : ∀ {ds : List D} {vs : List V}, DaAll K G vs ds → PyData.showableAll ds = true → okDs ds = true
  | _, _, .nil, _ => rfl
  | _, _, .cons a b, ok => by
    simp only [PyData.showableAll, Bool.and_eq_true] at ok
    simp only [okDs, Bool.and_eq_true]
    exact ⟨Da.okS a ok.1, DaAll.okS b ok.2⟩
end
end
/-! ### the state: what a body knows -/
/-- a def's entry: the heap, what of it is data, the deck -/
structure Bs where
  H : Hp
  G : Hp
  dk : Option (Addr × Addr)
  tG : Hp
/-- what a def may change: the deck, the marked things -/
def Bs.fp (B : Bs) (a : Addr) : Prop := (∃ x y, B.dk = some (x, y) ∧ (a = x ∨ a = y)) ∨ ∃ u, B.G a = some u ∧ isMk u = true
def DeckAt (H : Hp) (a b : Addr) (n : Nat) : Prop := ∃ (cells : List Int) (c : Int), H a = some (.lst [.ref b, .int c]) ∧ H b = some (.lst (cells.map V.int)) ∧ a ≠ b ∧ 0 ≤ c ∧ c ≤ (n : Int) ∧ (∀ x ∈ cells, 0 ≤ x) ∧ cells.length ≤ 63
def hashR (r : List Int) : Int := reduceHash (Builtin.Tuple.tupleHashOf (r.map hashInt))
def hashS (S : List (List Int)) : Int := reduceHash (Builtin.Tuple.tupleHashOf (S.map hashR))
def entS (x : List (List Int) × Addr × Value) : DictEntry := ⟨hashS x.1, .ref x.2.1, x.2.2⟩
/-- a dict's object, by its entries -/
def dicO (a : Addr) (xs : List (List (List Int) × Addr × Value)) : HO := .ext fun h => (a == sysModules) = false ∧ ∃ o es ep, h.get? a = some o ∧ o.ExactDict ∧ o.data = .dict es ep ∧ es.toList = xs.map entS ∧ (xs.map (·.1)).Nodup
abbrev kS (S : List (List Int)) : D := .tuple (S.map fun r => .tuple (r.map .int))
inductive KvS (K : PySem.W.Frag) (G : Hp) : List (List (List Int) × Int) → List (List (List Int) × Addr × Value) → Prop
  | nil : KvS K G [] []
  | cons {S : List (List Int)} {i : Int} {a : Addr} {t : Tok} {ps : List (List (List Int) × Int)} {xs : List (List (List Int) × Addr × Value)} : Da K G (.ref a) (kS S) → KvS K G ps xs → KvS K G ((S, i) :: ps) ((S, a, .int i t) :: xs)
theorem KvS.mono {K : PySem.W.Frag} {G G' : Hp} (s : Same G G') : ∀ {ps : List (List (List Int) × Int)} {xs : List (List (List Int) × Addr × Value)}, KvS K G ps xs → KvS K G' ps xs
  | _, _, .nil => .nil
  | _, _, .cons h r => .cons (h.mono s) (r.mono s)
def CellAt (K : PySem.W.Frag) (G H : Hp) (a k : Addr) : Cell → Prop
  | .ins c fs => G a = some (.own k) ∧ ∃ C dx vs, ClsOk K c C ∧ H a = some (.ins C dx vs) ∧ vs.map (·.1) = fs.map (·.1) ∧ DaAll K G (vs.map (·.2)) (fs.map (·.2))
  | .lst ds => G a = some (.met k k) ∧ ∃ xs, H a = some (.lst xs) ∧ DaAll K G xs ds
  | .dic kvs => G a = some (.own k) ∧ ∃ xs, H a = some (dicO a xs) ∧ KvS K G kvs xs
  | .tab P q => G a = some (.met k (k + 1)) ∧ a = P ∧ ∃ ps : Array Value, H a = some (.tbl ps) ∧ TriplesOk ps.toList ∧ ∀ (pos : Pos) (cv : Value), codeAmong pos ps.toList = some cv → ∃ c, cv = .ref c ∧ G c = some (LamX.CodeO c q)
theorem CellAt.there {K : PySem.W.Frag} {G H : Hp} {a k : Addr} : ∀ {c : Cell}, CellAt K G H a k c → H a ≠ none
  | .ins _ _, ⟨_, C, dx, vs, _, e, _⟩ => by rw [e]; simp
  | .lst _, ⟨_, xs, e, _⟩ => by rw [e]; simp
  | .dic _, ⟨_, xs, e, _⟩ => by rw [e]; simp
  | .tab _ _, ⟨_, _, ps, e, _⟩ => by rw [e]; simp
theorem CellAt.mark {K : PySem.W.Frag} {G H : Hp} {a k : Addr} : ∀ {c : Cell}, CellAt K G H a k c → ∃ u, G a = some u ∧ mkOf u = some k
  | .ins _ _, h => ⟨_, h.1, rfl⟩
  | .lst _, h => ⟨_, h.1, rfl⟩
  | .dic _, h => ⟨_, h.1, rfl⟩
  | .tab _ _, h => ⟨_, h.1, rfl⟩
theorem CellAt.mono {K : PySem.W.Frag} {G H G' H' : Hp} {a k : Addr} (s : Same G G') (e : ∀ o, H a = some o → H' a = some o) : ∀ {c : Cell}, CellAt K G H a k c → CellAt K G' H' a k c
  | .ins _ _, ⟨g, C, dx, vs, n, h, l, d⟩ => ⟨s _ _ g, C, dx, vs, n, e _ h, l, d.mono s⟩
  | .lst _, ⟨g, xs, h, d⟩ => ⟨s _ _ g, xs, e _ h, d.mono s⟩
  | .dic _, ⟨g, xs, h, d⟩ => ⟨s _ _ g, xs, e _ h, d.mono s⟩
  | .tab _ _, ⟨g, p, ps, h, t, d⟩ => ⟨s _ _ g, p, ps, e _ h, t, fun pos cv x => by
    obtain ⟨c, e1, e2⟩ := d pos cv x
    exact ⟨c, e1, s _ _ e2⟩⟩
/-- the marked things are those of the world -/
structure Obs (K : PySem.W.Frag) (H G : Hp) (n : Wd) : Prop where
  at_ : ∀ a u k, G a = some u → mkOf u = some k → ∃ c, n.ob[k]? = some c ∧ CellAt K G H a k c
  inj : ∀ a b u w k, G a = some u → G b = some w → mkOf u = some k → mkOf w = some k → a = b
  all : ∀ k c, n.ob[k]? = some c → ∃ a, CellAt K G H a k c
theorem Obs.grow {K : PySem.W.Frag} {H G H' G' : Hp} {n : Wd} (o : Obs K H G n) (s : Same H H') (sg : Same G G') (mk : ∀ a u, isMk u = true → G' a = some u → G a = some u) : Obs K H' G' n where
  at_ := fun a u k e m => by
    obtain ⟨c, h1, h2⟩ := o.at_ a u k (mk a u (by unfold isMk; rw [m]; rfl) e) m
    exact ⟨c, h1, h2.mono sg fun _ h => s _ _ h⟩
  inj := fun a b u w k e f m m' => o.inj a b u w k (mk a u (by unfold isMk; rw [m]; rfl) e) (mk b w (by unfold isMk; rw [m']; rfl) f) m m'
  all := fun k c e => by
    obtain ⟨a, h⟩ := o.all k c e
    exact ⟨a, h.mono sg fun _ h => s _ _ h⟩
structure Fm (K : PySem.W.Frag) (B : Bs) (H G : Hp) (n : Wd) : Prop where
  keep : ∀ a o, B.H a = some o → ¬ B.fp a → H a = some o
  sub : SubM G H
  old : Same B.G G
  obs : Obs K H G n
  bt : ∀ a, B.H a = none → B.G a = none
  tg : Same B.tG G
  new : ∀ a, B.H a ≠ none → B.G a = none → G a = none
  deck : ∀ a b, B.dk = some (a, b) → DeckAt H a b n.n ∧ B.H a ≠ none ∧ B.H b ≠ none ∧ B.G a = none ∧ B.G b = none
/-- what a slot holds: data, a list of its own (it may be changed), the deck, anything -/
inductive Sl where
  | val (d : D) | own (ds : List D) | deck | any | exn (a : Addr) (od : Option Addr) (fs : List (Str × D))
  /-- a function; what is known of it stays true -/
  | fn (f : Addr) (F : Hp → Prop)
/-- the fields of an error that is held -/
def XdAt (K : PySem.W.Frag) (G : Hp) (od : Option Addr) (fs : List (Str × D)) : Prop := (fs = [] ∧ od = none) ∨ ∃ dx vs, od = some dx ∧ G dx = some (.xd vs) ∧ vs.map (·.1) = fs.map (·.1) ∧ DaAll K G (vs.map (·.2)) (fs.map (·.2))
theorem XdAt.mono {K : PySem.W.Frag} {G G' : Hp} {od : Option Addr} {fs : List (Str × D)} (s : Same G G') (h : XdAt K G od fs) : XdAt K G' od fs := by
  rcases h with h | ⟨dx, vs, h1, h2, h3, h4⟩
  · exact .inl h
  · exact .inr ⟨dx, vs, h1, s _ _ h2, h3, h4.mono s⟩
structure Ok (K : PySem.W.Frag) (B : Bs) (g : List Sl) (σ : L2.St) (H G : Hp) (n : Wd) : Prop where
  fm : Fm K B H G n
  len : g.length = σ.length
  val : ∀ (i : Nat) (d : D), g[i]? = some (Sl.val d) → ∃ v, σ[i]? = some (some v) ∧ Da K G v d
  own : ∃ f : Nat → Addr, (∀ (i j : Nat) (ds es : List D), g[i]? = some (Sl.own ds) → g[j]? = some (Sl.own es) → f i = f j → i = j) ∧
    ∀ (i : Nat) (ds : List D), g[i]? = some (Sl.own ds) → σ[i]? = some (some (V.ref (f i))) ∧ G (f i) = none ∧ B.H (f i) = none ∧ ∃ xs, H (f i) = some (.lst xs) ∧ DaAll K G xs ds
  dck : ∀ (i : Nat), g[i]? = some Sl.deck → ∃ a b, B.dk = some (a, b) ∧ σ[i]? = some (some (V.ref a))
  adr : ∀ (i : Nat) (a : Addr) (od : Option Addr) (fs : List (Str × D)), g[i]? = some (Sl.exn a od fs) → σ[i]? = some (some (V.ref a)) ∧ XdAt K G od fs
  fnc : ∀ (i : Nat) (f : Addr) (F : Hp → Prop), g[i]? = some (Sl.fn f F) → σ[i]? = some (some (V.ref f)) ∧ F G ∧ ∀ G1 G2, Same G1 G2 → F G1 → F G2
/-- an error as it lies behind the code -/
def ExA (K : PySem.W.Frag) (mg : Str → Option Value) (e : Exn) (G : Hp) (c : Value) (od : Option Addr) : Prop := ∃ C, mg e.cls = some (.ref C) ∧ c = .ref C ∧ XdAt K G od e.fs
abbrev ExAt (X : Cx) (e : Exn) (G : Hp) (_ : Hp) (c : Value) (od : Option Addr) : Prop := ExA X.K X.mg e G c od
/-- what is wished at an exception: w; the slots that are kept: g -/
structure XR where
  w : WX
  g : List Sl
def X0 : XR := ⟨fun _ _ _ _ => False, []⟩
def Xw (X : Cx) (B : Bs) (EX : XR) (ξ : Exn → Wd → Prop) : Prop := ∀ e n' σ' H' G' c od, ξ e n' → Ok X.K B EX.g σ' H' G' n' → ExAt X e G' H' c od → EX.w c od σ' H'
section
variable {K : PySem.W.Frag} {B : Bs} {g : List Sl} {σ : L2.St} {H G H' G' : Hp} {n : Wd}
/-- the heap grows: G grows with it, but not into what stood there -/
theorem Fm.there (f : Fm K B H G n) {a : Addr} {o : HO} (e : G a = some o) : H a ≠ none := fun h => by
  rw [f.sub.t a h] at e
  cases e
theorem Fm.fpThere (f : Fm K B H G n) {a : Addr} (h : B.fp a) : H a ≠ none := by
  rcases h with ⟨x, y, ed, hxy⟩ | ⟨k, e⟩
  · obtain ⟨⟨cs, c, h1, h2, _⟩, _⟩ := f.deck x y ed
    rcases hxy with rfl | rfl
    · rw [h1]; simp
    · rw [h2]; simp
  · exact f.there (f.old _ _ e.1)
theorem Fm.grow (f : Fm K B H G n) (s : Same H H') (sg : Same G G') (sb : SubM G' H') (nw : ∀ a, H a ≠ none → G a = none → G' a = none) (mk : ∀ a u, isMk u = true → G' a = some u → G a = some u) : Fm K B H' G' n where
  keep := fun a o e q => s _ _ (f.keep a o e q)
  sub := sb
  old := f.old.trans sg
  obs := f.obs.grow s sg mk
  bt := f.bt
  tg := f.tg.trans sg
  new := fun a e q => by
    by_cases h : H a = none
    · by_cases hp : B.fp a
      · exact absurd h (f.fpThere hp)
      · cases hb : B.H a with
        | none => exact absurd hb e
        | some o => rw [f.keep a o hb hp] at h; cases h
    · exact nw a h (f.new a e q)
  deck := fun a b e => by
    obtain ⟨⟨cs, c, h1, h2, h3⟩, r⟩ := f.deck a b e
    exact ⟨⟨cs, c, s _ _ h1, s _ _ h2, h3⟩, r⟩
theorem Ok.grow (o : Ok K B g σ H G n) (s : Same H H') (sg : Same G G') (sb : SubM G' H') (nw : ∀ a, H a ≠ none → G a = none → G' a = none) (mk : ∀ a u, isMk u = true → G' a = some u → G a = some u) : Ok K B g σ H' G' n where
  fm := o.fm.grow s sg sb nw mk
  len := o.len
  val := fun i d e => by
    obtain ⟨v, h1, h2⟩ := o.val i d e
    exact ⟨v, h1, h2.mono sg⟩
  own := by
    obtain ⟨f, h1, h2⟩ := o.own
    refine ⟨f, h1, fun i ds e => ?_⟩
    obtain ⟨a, b, c, xs, d, e⟩ := h2 i ds e
    exact ⟨a, nw _ (by rw [d]; simp) b, c, xs, s _ _ d, e.mono sg⟩
  dck := o.dck
  adr := fun i a od fs e => ⟨(o.adr i a od fs e).1, (o.adr i a od fs e).2.mono sg⟩
  fnc := fun i f F e => ⟨(o.fnc i f F e).1, (o.fnc i f F e).2.2 _ _ sg (o.fnc i f F e).2.1, (o.fnc i f F e).2.2⟩
theorem same_upd {H : Hp} {p : Addr} {o : HO} (h : H p = none) : Same H (upd H p o) := fun b x e => by
  rw [upd_ne (ne_of_none e h)]
  exact e
/-- a new object that is data -/
theorem Ok.alloc (o : Ok K B g σ H G n) {p : Addr} {u : HO} (h : H p = none) (hu : isMk u = false := by rfl) : Ok K B g σ (upd H p u) (upd G p u) n ∧ Same G (upd G p u) := by
  have hg : G p = none := by
    cases e : G p with
    | none => rfl
    | some z => exact absurd h (o.fm.there e)
  refine ⟨o.grow (same_upd h) (same_upd hg) ⟨fun a z e m => ?_, fun a e => ?_⟩ (fun a e q => ?_) (fun a w m e => ?_), same_upd hg⟩
  · unfold upd at e ⊢
    split at e
    · rename_i ha; rw [if_pos ha]; exact e
    · rename_i ha; rw [if_neg ha]; exact o.fm.sub.h _ _ e m
  · unfold upd at e ⊢
    split at e
    · cases e
    · rename_i ha; rw [if_neg ha]; exact o.fm.sub.t a e
  · have : a ≠ p := by rintro rfl; exact e h
    rw [upd_ne this]; exact q
  · unfold upd at e
    split at e
    · cases e; rw [hu] at m; cases m
    · exact e
/-- a new object that is not data (yet) -/
theorem Ok.raw (o : Ok K B g σ H G n) {p : Addr} {u : HO} (h : H p = none) : Ok K B g σ (upd H p u) G n :=
  o.grow (same_upd h) (Same.refl _) (o.fm.sub.trans (same_upd h)) (fun _ _ q => q) fun _ _ _ q => q
theorem Ok.free (o : Ok K B g σ H G n) {p : Addr} (h : H p = none) : G p = none := by
  cases e : G p with
  | none => rfl
  | some z => exact absurd h (o.fm.there e)
end
/-! ### the judgements -/
section
variable {m : Type → Type} [Mo m]
/-- an expression that gives data -/
def teJ (X : Cx) (EX : XR) (g : List Sl) (x : m D) : TE := fun σ H Q => ∃ B G n φ ξ, Ok X.K B g σ H G n ∧ Mo.sat x n φ ξ ∧ (∀ v H' G' d n', Ok X.K B g σ H' G' n' → Same G G' → Da X.K G' v d → φ d n' → Q v H') ∧ Xw X B EX ξ
def EJ (X : Cx) (EX : XR) (e : Expr) (g : List Sl) (x : m D) : Prop := PE X e (teJ X EX g x)
/-- an expression that gives a new list, not data yet -/
def tlJ (X : Cx) (EX : XR) (g : List Sl) (x : m (List D)) : TE := fun σ H Q => ∃ B G n φ ξ, Ok X.K B g σ H G n ∧ Mo.sat x n φ ξ ∧
  (∀ p xs H' G' ds n', Ok X.K B g σ H' G' n' → Same G G' → B.H p = none → G' p = none → H' p = some (.lst xs) → (∀ (i : Nat) (es : List D) (f : Addr), g[i]? = some (Sl.own es) → σ[i]? = some (some (V.ref f)) → f ≠ p) → DaAll X.K G' xs ds → φ ds n' → Q (.ref p) H') ∧ Xw X B EX ξ
def LJ (X : Cx) (EX : XR) (e : Expr) (g : List Sl) (x : m (List D)) : Prop := PE X e (tlJ X EX g x)
def ttJ (X : Cx) (EX : XR) (g : List Sl) (x : m Bool) : TT := fun σ H Q => ∃ B G n φ ξ, Ok X.K B g σ H G n ∧ Mo.sat x n φ ξ ∧ (∀ b H' G' n', Ok X.K B g σ H' G' n' → Same G G' → φ b n' → Q b H') ∧ Xw X B EX ξ
def TJ (X : Cx) (EX : XR) (e : Expr) (g : List Sl) (x : m Bool) : Prop := PT X e (ttJ X EX g x)
/-- arguments: data, or the deck -/
def ArgOk (K : PySem.W.Frag) (B : Bs) (G : Hp) : V → Sl → Prop
  | v, .val d => Da K G v d
  | v, .deck => ∃ a b, B.dk = some (a, b) ∧ v = .ref a
  | _, _ => False
inductive ArgsOk (K : PySem.W.Frag) (B : Bs) (G : Hp) : List V → List Sl → Prop
  | nil : ArgsOk K B G [] []
  | cons {v : V} {vs : List V} {a : Sl} {as : List Sl} : ArgOk K B G v a → ArgsOk K B G vs as → ArgsOk K B G (v :: vs) (a :: as)
def taJ (X : Cx) (EX : XR) (g : List Sl) (x : m (List Sl)) : TA := fun σ H Q => ∃ B G n φ ξ, Ok X.K B g σ H G n ∧ Mo.sat x n φ ξ ∧ (∀ vs H' G' as n', Ok X.K B g σ H' G' n' → Same G G' → ArgsOk X.K B G' vs as → φ as n' → Q vs H') ∧ Xw X B EX ξ
def AJ (X : Cx) (EX : XR) (es : List Expr) (g : List Sl) (x : m (List Sl)) : Prop := PA X es (taJ X EX g x)
end
theorem _root_.L2.PE.weak {X : Cx} {e : Expr} {t t' : TE} (h : PE X e t) (w : ∀ σ H Q, t' σ H Q → t σ H Q) : PE X e t' := ⟨fun pins s σ H Q I q => h.run pins s σ H Q I (w _ _ _ q)⟩
theorem _root_.L2.PT.weak {X : Cx} {e : Expr} {t t' : TT} (h : PT X e t) (w : ∀ σ H Q, t' σ H Q → t σ H Q) : PT X e t' := ⟨fun pins s σ H Q I q => h.run pins s σ H Q I (w _ _ _ q)⟩
theorem _root_.L2.PA.weak {X : Cx} {es : List Expr} {t t' : TA} (h : PA X es t) (w : ∀ σ H Q, t' σ H Q → t σ H Q) : PA X es t' := ⟨fun pos pins s σ H Q I q => h.run pos pins s σ H Q I (w _ _ _ q)⟩
theorem _root_.L2.PSs.weak {X : Cx} {ss : List Stmt} {t t' : TS} (h : PSs X ss t) (w : ∀ D σ H, t' D σ H → t D σ H) : PSs X ss t' := ⟨fun pins s σ H D I q => h.run pins s σ H D I (w _ _ _ q)⟩
theorem _root_.L2.PS.weak {X : Cx} {ss : Stmt} {t t' : TS} (h : PS X ss t) (w : ∀ D σ H, t' D σ H → t D σ H) : PS X ss t' := ⟨fun pins s σ H D I q => h.run pins s σ H D I (w _ _ _ q)⟩
end DD
namespace DD
open PySem PySem.Spec PyProof.Rows L2
/-- the heap and its data grow -/
structure Gr (H G H' G' : Hp) : Prop where
  h : Same H H'
  g : Same G G'
  sub : SubM G' H'
  new : ∀ a, H a ≠ none → G a = none → G' a = none
  mks : ∀ a u, isMk u = true → G' a = some u → G a = some u
theorem Gr.refl {H G : Hp} (s : SubM G H) : Gr H G H G := ⟨Same.refl _, Same.refl _, s, fun _ _ q => q, fun _ _ _ q => q⟩
theorem Ok.gr {K : PySem.W.Frag} {B : Bs} {g : List Sl} {σ : L2.St} {H G H' G' : Hp} {n : Wd} (o : Ok K B g σ H G n) (r : Gr H G H' G') : Ok K B g σ H' G' n := o.grow r.h r.g r.sub r.new r.mks
theorem Gr.alloc {H G : Hp} {p : Addr} {u : HO} (s : SubM G H) (h : H p = none) (hu : isMk u = false := by rfl) : Gr H G (upd H p u) (upd G p u) := by
  have hg : G p = none := s.t p h
  refine ⟨same_upd h, same_upd hg, ⟨fun a z e m => ?_, fun a e => ?_⟩, fun a e q => ?_, fun a w m e => ?_⟩
  · unfold upd at e ⊢
    split at e
    · rename_i ha; rw [if_pos ha]; exact e
    · rename_i ha; rw [if_neg ha]; exact s.h _ _ e m
  · unfold upd at e ⊢
    split at e
    · cases e
    · rename_i ha; rw [if_neg ha]; exact s.t a e
  · have : a ≠ p := by rintro rfl; exact e h
    rw [upd_ne this]; exact q
  · unfold upd at e
    split at e
    · cases e; rw [hu] at m; cases m
    · exact e
theorem Gr.trans {H G H1 G1 H2 G2 : Hp} (a : Gr H G H1 G1) (b : Gr H1 G1 H2 G2) : Gr H G H2 G2 :=
  ⟨a.h.trans b.h, a.g.trans b.g, b.sub, fun x e q => b.new x (by
    cases h : H x with
    | none => exact absurd h e
    | some o => rw [a.h _ _ h]; simp) (a.new x e q), fun x u m e => a.mks x u m (b.mks x u m e)⟩
/-- operations on data behind operations on values -/
def RD (K : PySem.W.Frag) (r : R2) (f : D → D → Option D) : Prop := ∀ (x y : V) (dx dy z : D) (H G : Hp) (Q : VK), Da K G x dx → Da K G y dy → SubM G H → f dx dy = some z → (∀ v H' G', Gr H G H' G' → Da K G' v z → Q v H') → r x y H Q
def RC1 (K : PySem.W.Frag) (r : List V → Hp → VK → Prop) (f : D → Option D) : Prop := ∀ (x : V) (dx z : D) (H G : Hp) (Q : VK), Da K G x dx → SubM G H → f dx = some z → (∀ v H' G', Gr H G H' G' → Da K G' v z → Q v H') → r [x] H Q
def RC2 (K : PySem.W.Frag) (r : List V → Hp → VK → Prop) (f : D → D → Option D) : Prop := ∀ (x y : V) (dx dy z : D) (H G : Hp) (Q : VK), Da K G x dx → Da K G y dy → SubM G H → f dx dy = some z → (∀ v H' G', Gr H G H' G' → Da K G' v z → Q v H') → r [x, y] H Q
section
variable {m : Type → Type} [Mo m] {X : Cx} {EX : XR} {g : List Sl}
/-! ### names, constants -/
theorem ej_var (i : Nat) {x : Str} {pos : Pos} {d : D} (hs : g[i]? = some (Sl.val d) := by rfl) (hN : X.N[i]? = some x := by rfl) (hv : Vis X.env.scope x := by first | exact Or.inl rfl | exact Or.inr (Or.inl rfl) | exact Or.inr (Or.inr rfl)) (hd : (x == ("__debug__" : Str)) = false := by decide)
    (hcd : (x == ("__classdict__" : Str)) = false := by decide) : EJ (m := m) X EX (.Name x pos) g (pure d) :=
  (pe_var hN hv hd hcd).weak fun σ H Q ⟨B, G, n, φ, ξ, o, s, q, _⟩ => by
    obtain ⟨v, h1, h2⟩ := o.val i d hs
    exact ⟨v, h1, q v H G d n o (Same.refl _) h2 (Mo.sat_pure s)⟩
theorem ej_c {e : Expr} {v : V} {d : D} (h : PE X e (tC v)) (hd : ∀ K G, Da K G v d) : EJ (m := m) X EX e g (pure d) :=
  h.weak fun σ H Q ⟨B, G, n, φ, ξ, o, s, q, _⟩ => q v H G d n o (Same.refl _) (hd _ _) (Mo.sat_pure s)
theorem ej_int {i : Int} {j pos} : EJ (m := m) X EX (.Constant (.int i) j pos) g (pure (.int i)) := ej_c pe_int fun _ _ => .int i
theorem ej_bl {b : Bool} {j pos} : EJ (m := m) X EX (.Constant (.bool b) j pos) g (pure (.bool b)) := ej_c pe_bl fun _ _ => .bl b
theorem ej_non {j pos} : EJ (m := m) X EX (.Constant .none j pos) g (pure .none) := ej_c pe_non fun _ _ => .non
theorem ej_str {x : Str} {j pos} : EJ (m := m) X EX (.Constant (.str x) j pos) g (pure (.str x)) := ej_c pe_str fun _ _ => .str x
theorem ej_gint {x : Str} {i : Int} {t : Tok} {pos : Pos} (hm : X.mg x = some (.int i t)) (hg : Gl X x := by rfl) (hd : (x == ("__debug__" : Str)) = false := by decide) : EJ (m := m) X EX (.Name x pos) g (pure (.int i)) :=
  ej_c (pe_glob (v := .int i) hg hm ⟨t, rfl⟩ hd) fun _ _ => .int i
/-! ### one and two operands -/
theorem te_one {α : Type} {x : m D} {f : D → m α} {n : Wd} {φ : α → Wd → Prop} {ξ : Exn → Wd → Prop} {B : Bs} {σ : L2.St} {H G : Hp} {Q : VK} (o : Ok X.K B g σ H G n) (s : Mo.sat (x >>= f) n φ ξ)
    (q : ∀ v H' G' d n', Ok X.K B g σ H' G' n' → Same G G' → Da X.K G' v d → Mo.sat (f d) n' φ ξ → Q v H') (xw : Xw X B EX ξ) : teJ X EX g x σ H Q :=
  ⟨B, G, n, _, ξ, o, Mo.sat_bind s, q, xw⟩
theorem ej_bin {a b : Expr} {op : Operator} {pos : Pos} {r : R2} {f : D → D → Option D} {x y : m D} (ho : OpR X (binaryOp op) r) (hr : RD X.K r f) (ha : EJ X EX a g x) (hb : EJ X EX b g y) :
    EJ X EX (.BinOp a op b pos) g (x >>= fun dx => y >>= fun dy => Mo.lift (f dx dy)) :=
  (pe_op ho ha hb).weak fun σ H Q ⟨B, G, n, φ, ξ, o, s, q, xw⟩ => te_one o s (fun v H1 G1 d n1 o1 g1 d1 s1 => te_one o1 s1 (fun w H2 G2 e n2 o2 g2 d2 s2 => by
    obtain ⟨z, ez, pz⟩ := Mo.sat_lift s2
    exact hr v w d e z H2 G2 Q (d1.mono g2) d2 o2.fm.sub ez fun u H3 G3 gr du => q u H3 G3 z n2 (o2.gr gr) ((g1.trans g2).trans gr.g) du pz) xw) xw
theorem ej_cmp {a b : Expr} {op : CmpOp} {pos : Pos} {r : R2} {f : D → D → Option D} {x y : m D} (ho : OpR X (compareOp op) r) (hr : RD X.K r f) (ha : EJ X EX a g x) (hb : EJ X EX b g y) (hn : behindInMarks op b = false := by first | exact nobehind _ (by decide) (by decide) | rfl) :
    EJ X EX (.Compare a [op] [b] pos) g (x >>= fun dx => y >>= fun dy => Mo.lift (f dx dy)) :=
  (pe_cmpR ho ha hb hn).weak fun σ H Q ⟨B, G, n, φ, ξ, o, s, q, xw⟩ => te_one o s (fun v H1 G1 d n1 o1 g1 d1 s1 => te_one o1 s1 (fun w H2 G2 e n2 o2 g2 d2 s2 => by
    obtain ⟨z, ez, pz⟩ := Mo.sat_lift s2
    exact hr v w d e z H2 G2 Q (d1.mono g2) d2 o2.fm.sub ez fun u H3 G3 gr du => q u H3 G3 z n2 (o2.gr gr) ((g1.trans g2).trans gr.g) du pz) xw) xw
theorem ej_ix {a b : Expr} {pos : Pos} {r : R2} {f : D → D → Option D} {x y : m D} (ho : IxR X r) (hr : RD X.K r f) (ha : EJ X EX a g x) (hb : EJ X EX b g y) (hs : PlainIx b) :
    EJ X EX (.Subscript a b pos) g (x >>= fun dx => y >>= fun dy => Mo.lift (f dx dy)) :=
  (pe_ix ho ha hb hs).weak fun σ H Q ⟨B, G, n, φ, ξ, o, s, q, xw⟩ => te_one o s (fun v H1 G1 d n1 o1 g1 d1 s1 => te_one o1 s1 (fun w H2 G2 e n2 o2 g2 d2 s2 => by
    obtain ⟨z, ez, pz⟩ := Mo.sat_lift s2
    exact hr v w d e z H2 G2 Q (d1.mono g2) d2 o2.fm.sub ez fun u H3 G3 gr du => q u H3 G3 z n2 (o2.gr gr) ((g1.trans g2).trans gr.g) du pz) xw) xw
theorem ej_call1 {fx : Str} {p pos : Pos} {a : Expr} {id : String} {r : List V → Hp → VK → Prop} {f : D → Option D} {x : m D} (hc : CallR X (.builtin id) r) (hr : RC1 X.K r f) (hm : X.mg fx = none) (ha : EJ X EX a g x) (hv : bootBuiltins fx = some (.builtin id) := by decide +kernel) (hg : Gl X fx := by rfl)
    (hn : fx ≠ "__name__" := by decide) (hdb : (fx == ("__debug__" : Str)) = false := by decide) (hs : starEach [a] X.env = (false, eval a X.env) :: starEach [] X.env := by rfl) :
    EJ X EX (.Call (.Name fx p) [a] [] pos) g (x >>= fun d => Mo.lift (f d)) :=
  (pe_callB hc hg hm hv (pa_cons ha pa_nil hs) hn hdb hs rfl).weak fun σ H Q ⟨B, G, n, φ, ξ, o, s, q, xw⟩ => te_one o s (fun v H1 G1 d n1 o1 g1 d1 s1 => by
    obtain ⟨z, ez, pz⟩ := Mo.sat_lift s1
    exact hr v d z H1 G1 Q d1 o1.fm.sub ez fun u H3 G3 gr du => q u H3 G3 z n1 (o1.gr gr) (g1.trans gr.g) du pz) xw
theorem ej_callT {fx : Str} {p pos : Pos} {a : Expr} {T : String} {r : List V → Hp → VK → Prop} {f : D → Option D} {x : m D} (hc : CallR X (.type T) r) (hr : RC1 X.K r f) (hm : X.mg fx = none) (ha : EJ X EX a g x) (hv : bootBuiltins fx = some (.type T) := by decide +kernel) (hg : Gl X fx := by rfl)
    (hn : fx ≠ "__name__" := by decide) (hdb : (fx == ("__debug__" : Str)) = false := by decide) (hs : starEach [a] X.env = (false, eval a X.env) :: starEach [] X.env := by rfl) :
    EJ X EX (.Call (.Name fx p) [a] [] pos) g (x >>= fun d => Mo.lift (f d)) :=
  (pe_callTy hc hg hm hv (pa_cons ha pa_nil hs) hn hdb hs rfl).weak fun σ H Q ⟨B, G, n, φ, ξ, o, s, q, xw⟩ => te_one o s (fun v H1 G1 d n1 o1 g1 d1 s1 => by
    obtain ⟨z, ez, pz⟩ := Mo.sat_lift s1
    exact hr v d z H1 G1 Q d1 o1.fm.sub ez fun u H3 G3 gr du => q u H3 G3 z n1 (o1.gr gr) (g1.trans gr.g) du pz) xw
theorem ej_call2 {fx : Str} {p pos : Pos} {a b : Expr} {id : String} {r : List V → Hp → VK → Prop} {f : D → D → Option D} {x y : m D} (hc : CallR X (.builtin id) r) (hr : RC2 X.K r f) (hm : X.mg fx = none) (ha : EJ X EX a g x) (hb : EJ X EX b g y) (hv : bootBuiltins fx = some (.builtin id) := by decide +kernel) (hg : Gl X fx := by rfl)
    (hn : fx ≠ "__name__" := by decide) (hdb : (fx == ("__debug__" : Str)) = false := by decide) (hs : starEach [a, b] X.env = (false, eval a X.env) :: starEach [b] X.env := by rfl) (hs2 : starEach [b] X.env = (false, eval b X.env) :: starEach [] X.env := by rfl) :
    EJ X EX (.Call (.Name fx p) [a, b] [] pos) g (x >>= fun d => y >>= fun e => Mo.lift (f d e)) :=
  (pe_callB hc hg hm hv (pa_cons ha (pa_cons hb pa_nil hs2) hs) hn hdb hs (by rw [hs2]; rfl)).weak fun σ H Q ⟨B, G, n, φ, ξ, o, s, q, xw⟩ => te_one o s (fun v H1 G1 d n1 o1 g1 d1 s1 => te_one o1 s1 (fun w H2 G2 e n2 o2 g2 d2 s2 => by
    obtain ⟨z, ez, pz⟩ := Mo.sat_lift s2
    exact hr v w d e z H2 G2 Q (d1.mono g2) d2 o2.fm.sub ez fun u H3 G3 gr du => q u H3 G3 z n2 (o2.gr gr) ((g1.trans g2).trans gr.g) du pz) xw) xw
/-! ### arguments, displays -/
theorem ArgsOk.mono {K : PySem.W.Frag} {B : Bs} {G G' : Hp} (s : Same G G') : ∀ {vs : List V} {as : List Sl}, ArgsOk K B G vs as → ArgsOk K B G' vs as
  | _, _, .nil => .nil
  | _, _, .cons (a := .val d) h r => .cons (show Da _ _ _ _ from Da.mono s h) (ArgsOk.mono s r)
  | _, _, .cons (a := .deck) h r => .cons h (ArgsOk.mono s r)
  | _, _, .cons (a := .own _) h _ => h.elim
  | _, _, .cons (a := .any) h _ => h.elim
  | _, _, .cons (a := .exn _ _ _) h _ => h.elim
  | _, _, .cons (a := .fn _ _) h _ => h.elim
theorem aj_nil : AJ (m := m) X EX [] g (pure []) := pa_nil.weak fun σ H Q ⟨B, G, n, φ, ξ, o, s, q, _⟩ => q [] H G [] n o (Same.refl _) .nil (Mo.sat_pure s)
theorem aj_cons {e : Expr} {es : List Expr} {x : m D} {y : m (List Sl)} (he : EJ X EX e g x) (hr : AJ X EX es g y) (hs : starEach (e :: es) X.env = (false, eval e X.env) :: starEach es X.env := by rfl) : AJ X EX (e :: es) g (x >>= fun d => y >>= fun as => pure (.val d :: as)) :=
  (pa_cons he hr hs).weak fun σ H Q ⟨B, G, n, φ, ξ, o, s, q, xw⟩ => te_one o s (fun v H1 G1 d n1 o1 g1 d1 s1 => ⟨B, G1, n1, _, ξ, o1, Mo.sat_bind s1, fun vs H2 G2 as n2 o2 g2 a2 s2 =>
    q (v :: vs) H2 G2 (.val d :: as) n2 o2 (g1.trans g2) (.cons (show Da _ _ _ _ from d1.mono g2) a2) (Mo.sat_pure s2), xw⟩) xw
end
end DD
namespace DD
open PySem PySem.Spec PyProof.Rows L2
def boolD : D → Option Bool
  | .bool b => some b
  | _ => none
section
variable {m : Type → Type} [Mo m] {X : Cx} {EX : XR} {g : List Sl}
theorem Da.bool {K : PySem.W.Frag} {G : Hp} {v : V} {d : D} {b : Bool} (h : Da K G v d) (e : boolD d = some b) : v = .bl b := by
  cases h <;> simp [boolD] at e
  rw [e]
/-! ### tests -/
theorem tt_one {α : Type} {x : m Bool} {f : Bool → m α} {n : Wd} {φ : α → Wd → Prop} {ξ : Exn → Wd → Prop} {B : Bs} {σ : L2.St} {H G : Hp} {Q : Bool → Hp → Prop} (o : Ok X.K B g σ H G n) (s : Mo.sat (x >>= f) n φ ξ)
    (q : ∀ b H' G' n', Ok X.K B g σ H' G' n' → Same G G' → Mo.sat (f b) n' φ ξ → Q b H') (xw : Xw X B EX ξ) : ttJ X EX g x σ H Q :=
  ⟨B, G, n, _, ξ, o, Mo.sat_bind s, q, xw⟩
theorem tj_val {e : Expr} {x : m D} (h : EJ X EX e g x) (he : ∀ whole, isTrue e X.env whole = (do let v ← whole; standAt e.pos; holding [v] (truthy v)) := by intro _; rfl) : TJ X EX e g (x >>= fun d => Mo.lift (boolD d)) :=
  (pt_val h he).weak fun σ H Q ⟨B, G, n, φ, ξ, o, s, q, xw⟩ => te_one o s (fun v H1 G1 d n1 o1 g1 d1 s1 => by
    obtain ⟨b, eb, pb⟩ := Mo.sat_lift s1
    exact ⟨b, d1.bool eb, q b H1 G1 n1 o1 g1 pb⟩) xw
theorem tj_cmp {a b : Expr} {op : CmpOp} {pos : Pos} {r : R2} {f : D → D → Option D} {x y : m D} (ho : OpR X (compareOp op) r) (hr : RD X.K r f) (ha : EJ X EX a g x) (hb : EJ X EX b g y) (hn : behindInMarks op b = false := by first | exact nobehind _ (by decide) (by decide) | rfl) :
    TJ X EX (.Compare a [op] [b] pos) g (x >>= fun dx => y >>= fun dy => Mo.lift ((f dx dy).bind boolD)) :=
  (pt_cmpR ho ha hb hn).weak fun σ H Q ⟨B, G, n, φ, ξ, o, s, q, xw⟩ => te_one o s (fun v H1 G1 d n1 o1 g1 d1 s1 => te_one o1 s1 (fun w H2 G2 e n2 o2 g2 d2 s2 => by
    obtain ⟨b, eb, pb⟩ := Mo.sat_lift s2
    obtain ⟨z, ez, eb⟩ := Option.bind_eq_some_iff.mp eb
    exact hr v w d e z H2 G2 _ (d1.mono g2) d2 o2.fm.sub ez fun u H3 G3 gr du => ⟨b, du.bool eb, q b H3 G3 n2 (o2.gr gr) ((g1.trans g2).trans gr.g) pb⟩) xw) xw
theorem tj_not {a : Expr} {pos : Pos} {x : m Bool} (ha : TJ X EX a g x) : TJ X EX (.UnaryOp .Not a pos) g (x >>= fun b => pure (!b)) :=
  (pt_not ha).weak fun σ H Q ⟨B, G, n, φ, ξ, o, s, q, xw⟩ => tt_one o s (fun b H1 G1 n1 o1 g1 s1 => q _ H1 G1 n1 o1 g1 (Mo.sat_pure s1)) xw
/-- and, or: the rest is a test of its own -/
def WJ (X : Cx) (EX : XR) (e : Expr) (g : List Sl) (x : m Bool) : Prop := PW X e (ttJ X EX g x)
theorem _root_.L2.PW.weak {X : Cx} {e : Expr} {t t' : TT} (h : PW X e t) (w : ∀ σ H Q, t' σ H Q → t σ H Q) : PW X e t' := ⟨fun wh pins s σ H Q I q => h.run wh pins s σ H Q I (w _ _ _ q)⟩
theorem tj_w {e : Expr} {x : m Bool} (h : WJ X EX e g x) : TJ X EX e g x := PW.pt h
theorem wj_and1 {a : Expr} {pos : Pos} {x : m Bool} (ha : TJ X EX a g x) : WJ X EX (.BoolOp .And [a] pos) g x := pw_and1 ha
theorem wj_or1 {a : Expr} {pos : Pos} {x : m Bool} (ha : TJ X EX a g x) : WJ X EX (.BoolOp .Or [a] pos) g x := pw_or1 ha
theorem wj_and {a b : Expr} {rest : List Expr} {pos : Pos} {x y : m Bool} (ha : TJ X EX a g x) (hb : WJ X EX (.BoolOp .And (b :: rest) pos) g y) : WJ X EX (.BoolOp .And (a :: b :: rest) pos) g (x >>= fun k => if k = true then y else pure false) :=
  (pw_and ha hb).weak fun σ H Q ⟨B, G, n, φ, ξ, o, s, q, xw⟩ => tt_one o s (fun b H1 G1 n1 o1 g1 s1 => by
    cases b with
    | true =>
      rw [if_pos rfl] at s1 ⊢
      exact ⟨B, G1, n1, φ, ξ, o1, s1, fun b H2 G2 n2 o2 g2 p2 => q b H2 G2 n2 o2 (g1.trans g2) p2, xw⟩
    | false =>
      rw [if_neg Bool.false_ne_true] at s1 ⊢
      exact q false H1 G1 n1 o1 g1 (Mo.sat_pure s1)) xw
theorem wj_or {a b : Expr} {rest : List Expr} {pos : Pos} {x y : m Bool} (ha : TJ X EX a g x) (hb : WJ X EX (.BoolOp .Or (b :: rest) pos) g y) : WJ X EX (.BoolOp .Or (a :: b :: rest) pos) g (x >>= fun k => if k = true then pure true else y) :=
  (pw_or ha hb).weak fun σ H Q ⟨B, G, n, φ, ξ, o, s, q, xw⟩ => tt_one o s (fun b H1 G1 n1 o1 g1 s1 => by
    cases b with
    | true =>
      rw [if_pos rfl] at s1 ⊢
      exact q true H1 G1 n1 o1 g1 (Mo.sat_pure s1)
    | false =>
      rw [if_neg Bool.false_ne_true] at s1 ⊢
      exact ⟨B, G1, n1, φ, ξ, o1, s1, fun b H2 G2 n2 o2 g2 p2 => q b H2 G2 n2 o2 (g1.trans g2) p2, xw⟩) xw
def notD : D → Option D
  | .bool b => some (.bool (!b))
  | _ => none
theorem ej_if {c a b : Expr} {pos : Pos} {t : m Bool} {x y : m D} (hc : TJ X EX c g t) (ha : EJ X EX a g x) (hb : EJ X EX b g y) : EJ X EX (.IfExp c a b pos) g (t >>= fun k => if k = true then x else y) :=
  (pe_ifExp hc ha hb).weak fun σ H Q ⟨B, G, n, φ, ξ, o, s, q, xw⟩ => tt_one o s (fun b H1 G1 n1 o1 g1 s1 => by
    cases b with
    | true =>
      rw [if_pos rfl] at s1 ⊢
      exact ⟨B, G1, n1, φ, ξ, o1, s1, fun v H2 G2 e n2 o2 g2 d2 p2 => q v H2 G2 e n2 o2 (g1.trans g2) d2 p2, xw⟩
    | false =>
      rw [if_neg Bool.false_ne_true] at s1 ⊢
      exact ⟨B, G1, n1, φ, ξ, o1, s1, fun v H2 G2 e n2 o2 g2 d2 p2 => q v H2 G2 e n2 o2 (g1.trans g2) d2 p2, xw⟩) xw
/-! ### displays -/
def itemsD : D → Option (List D)
  | .list ds => some ds
  | .tuple ds => some ds
  | _ => none
theorem Da.seq {K : PySem.W.Frag} {G : Hp} {v : V} {d : D} {ds : List D} (h : Da K G v d) (e : itemsD d = some ds) : ∃ a xs, v = .ref a ∧ (SqT K G a xs ∨ SqL K G a xs) ∧ DaAll K G xs ds := by
  cases h with
  | lst h1 h2 => cases e; exact ⟨_, _, rfl, .inr (SqL.of h1), h2⟩
  | tup h1 h2 => cases e; exact ⟨_, _, rfl, .inl h1, h2⟩
  | _ => cases e
/-- written items: data alone; L their number, where no star stands among them -/
def tdJ (X : Cx) (EX : XR) (g : List Sl) (x : m (List D)) (L : Option Nat) : TA := fun σ H Q => ∃ B G n φ ξ, Ok X.K B g σ H G n ∧ Mo.sat x n φ ξ ∧ (∀ vs H' G' ds n', Ok X.K B g σ H' G' n' → Same G G' → DaAll X.K G' vs ds → (∀ k, L = some k → vs.length = k) → φ ds n' → Q vs H') ∧ Xw X B EX ξ
def DJ (X : Cx) (EX : XR) (es : List Expr) (g : List Sl) (x : m (List D)) (L : Option Nat) : Prop := PA X es (tdJ X EX g x L)
theorem dj_nil : DJ (m := m) X EX [] g (pure []) (some 0) := pa_nil.weak fun σ H Q ⟨B, G, n, φ, ξ, o, s, q, _⟩ => q [] H G [] n o (Same.refl _) .nil (fun k e => by cases e; rfl) (Mo.sat_pure s)
theorem dj_cons {e : Expr} {es : List Expr} {x : m D} {y : m (List D)} {L : Option Nat} (he : EJ X EX e g x) (hr : DJ X EX es g y L) (hs : starEach (e :: es) X.env = (false, eval e X.env) :: starEach es X.env := by rfl) : DJ X EX (e :: es) g (x >>= fun d => y >>= fun ds => pure (d :: ds)) (L.map (· + 1)) :=
  (pa_cons he hr hs).weak fun σ H Q ⟨B, G, n, φ, ξ, o, s, q, xw⟩ => te_one o s (fun v H1 G1 d n1 o1 g1 d1 s1 => ⟨B, G1, n1, _, ξ, o1, Mo.sat_bind s1, fun vs H2 G2 ds n2 o2 g2 a2 l2 s2 =>
    q (v :: vs) H2 G2 (d :: ds) n2 o2 (g1.trans g2) (.cons (d1.mono g2) a2) (fun k e => by
      obtain ⟨j, e1, rfl⟩ := Option.map_eq_some_iff.mp e
      rw [List.length_cons, l2 j e1]) (Mo.sat_pure s2), xw⟩) xw
theorem dj_star {e : Expr} {es : List Expr} {p : Pos} {x : m D} {y : m (List D)} {L : Option Nat} (he : EJ X EX e g x) (hr : DJ X EX es g y L) (hs : starEach (.Starred e p :: es) X.env = (true, eval e X.env) :: starEach es X.env := by rfl) : DJ X EX (.Starred e p :: es) g (x >>= fun d => Mo.lift (itemsD d) >>= fun as => y >>= fun ds => pure (as ++ ds)) none :=
  (StX.pa_star he hr hs).weak fun σ H Q ⟨B, G, n, φ, ξ, o, s, q, xw⟩ => te_one o s (fun v H1 G1 d n1 o1 g1 d1 s1 => by
    obtain ⟨as, ea, s2⟩ := Mo.sat_lift (Mo.sat_bind s1)
    obtain ⟨a, xs, ev, sq, da⟩ := d1.seq ea
    have sq' : SqT X.K H1 a xs ∨ SqL X.K H1 a xs := sq.elim (fun h => .inl (sameT o1.fm.sub h)) fun h => .inr (o1.fm.sub.seq h)
    exact ⟨a, xs, ev, sq', B, G1, n1, _, ξ, o1, Mo.sat_bind s2, fun vs H2 G2 ds n2 o2 g2 a2 _ s3 =>
      q (xs ++ vs) H2 G2 (as ++ ds) n2 o2 (g1.trans g2) ((da.mono g2).append a2) (fun k e => by cases e) (Mo.sat_pure s3), xw⟩) xw
/-- no display is longer than this -/
def small (ds : List D) : Option (List D) := if ds.length ≤ 1000000 then some ds else none
theorem small_eq {ds es : List D} (h : small ds = some es) : es = ds ∧ ds.length ≤ 1000000 := by
  unfold small at h
  split at h
  · rename_i hl; cases h; exact ⟨rfl, hl⟩
  · cases h
theorem le_line {k : Nat} (h : k ≤ 1000000) : k ≤ sizeLine := Nat.le_trans h (by decide)
theorem ej_tup {es : List Expr} {k : Nat} {pos : Pos} {j} {x : m (List D)} (h : DJ X EX es g x (some k)) (hk : k ≤ 1000000 := by decide) : EJ X EX (.Tuple es j pos) g (x >>= fun ds => pure (.tuple ds)) :=
  (pe_tup h).weak fun σ H Q ⟨B, G, n, φ, ξ, o, s, q, xw⟩ => ⟨B, G, n, _, ξ, o, Mo.sat_bind s, fun vs H1 G1 ds n1 o1 g1 a1 l1 s1 => ⟨by rw [l1 k rfl]; exact le_line hk, fun p hp => by
    obtain ⟨o2, g2⟩ := o1.alloc (u := .tup vs) hp
    exact q _ _ _ _ n1 o2 (g1.trans g2) (.tup (.inl (.inl upd_same)) (a1.mono g2)) (Mo.sat_pure s1)⟩, xw⟩
theorem ej_tupS {es : List Expr} {L : Option Nat} {pos : Pos} {j} {x : m (List D)} (h : DJ X EX es g x L) : EJ X EX (.Tuple es j pos) g (x >>= fun ds => Mo.lift (small ds) >>= fun ds => pure (.tuple ds)) :=
  (pe_tup h).weak fun σ H Q ⟨B, G, n, φ, ξ, o, s, q, xw⟩ => ⟨B, G, n, _, ξ, o, Mo.sat_bind s, fun vs H1 G1 ds n1 o1 g1 a1 l1 s1 => by
    obtain ⟨es', ee, s2⟩ := Mo.sat_lift (Mo.sat_bind s1)
    obtain ⟨rfl, hl⟩ := small_eq ee
    refine ⟨by rw [a1.length]; exact le_line hl, fun p hp => ?_⟩
    obtain ⟨o2, g2⟩ := o1.alloc (u := .tup vs) hp
    exact q _ _ _ _ n1 o2 (g1.trans g2) (.tup (.inl (.inl upd_same)) (a1.mono g2)) (Mo.sat_pure s2), xw⟩
/-- what stood in the heap is not new -/
theorem Ok.fresh {K : PySem.W.Frag} {B : Bs} {σ : L2.St} {H G : Hp} {n : Wd} {p : Addr} (o : Ok K B g σ H G n) (h : H p = none) : B.H p = none ∧ ∀ (i : Nat) (es : List D) (f : Addr), g[i]? = some (Sl.own es) → σ[i]? = some (some (V.ref f)) → f ≠ p := by
  constructor
  · cases e : B.H p with
    | none => rfl
    | some u =>
      by_cases hp : B.fp p
      · exact absurd h (o.fm.fpThere hp)
      · rw [o.fm.keep p u e hp] at h; cases h
  · rintro i es f e1 e2 rfl
    obtain ⟨fn, _, q⟩ := o.own
    obtain ⟨a, _, _, xs, b, _⟩ := q i es e1
    rw [a] at e2
    cases e2
    rw [b] at h; cases h
theorem lj_lst {es : List Expr} {k : Nat} {pos : Pos} {x : m (List D)} (h : DJ X EX es g x (some k)) (hk : k ≤ 1000000 := by decide) : LJ X EX (.List es pos) g x :=
  (pe_lst h).weak fun σ H Q ⟨B, G, n, φ, ξ, o, s, q, xw⟩ => ⟨B, G, n, _, ξ, o, s, fun vs H1 G1 ds n1 o1 g1 a1 l1 s1 => ⟨by rw [l1 k rfl]; exact le_line hk, fun p hp => by
    obtain ⟨f1, f2⟩ := o1.fresh hp
    exact q p vs _ G1 ds n1 (o1.raw hp) g1 f1 (o1.free hp) upd_same f2 a1 s1⟩, xw⟩
/-- a new list becomes data -/
theorem Ok.freeze {K : PySem.W.Frag} {B : Bs} {σ : L2.St} {H G : Hp} {n : Wd} {p : Addr} {u : HO} (o : Ok K B g σ H G n) (hb : B.H p = none) (hg : G p = none) (hh : H p = some u) (hf : ∀ (i : Nat) (es : List D) (f : Addr), g[i]? = some (Sl.own es) → σ[i]? = some (some (V.ref f)) → f ≠ p) (hu : isMk u = false := by rfl) :
    Ok K B g σ H (upd G p u) n ∧ Same G (upd G p u) := by
  refine ⟨⟨⟨o.fm.keep, ⟨fun a z e m => ?_, fun a e => ?_⟩, o.fm.old.trans (same_upd hg), o.fm.obs.grow (Same.refl _) (same_upd hg) (fun a w m e => ?_), o.fm.bt, o.fm.tg.trans (same_upd hg), fun a e q => ?_, o.fm.deck⟩, o.len, fun i d e => ?_, ?_, o.dck, fun i a od fs e => ⟨(o.adr i a od fs e).1, (o.adr i a od fs e).2.mono (same_upd hg)⟩, fun i f F e => ⟨(o.fnc i f F e).1, (o.fnc i f F e).2.2 _ _ (same_upd hg) (o.fnc i f F e).2.1, (o.fnc i f F e).2.2⟩⟩, same_upd hg⟩
  · unfold upd at e
    split at e
    · rename_i ha; subst ha; cases e; exact hh
    · exact o.fm.sub.h _ _ e m
  · have : a ≠ p := by rintro rfl; rw [hh] at e; cases e
    rw [upd_ne this]; exact o.fm.sub.t a e
  · unfold upd at e
    split at e
    · cases e; rw [hu] at m; cases m
    · exact e
  · have : a ≠ p := by rintro rfl; exact e hb
    rw [upd_ne this]; exact o.fm.new a e q
  · obtain ⟨v, h1, h2⟩ := o.val i d e
    exact ⟨v, h1, h2.mono (same_upd hg)⟩
  · obtain ⟨f, h1, h2⟩ := o.own
    refine ⟨f, h1, fun i ds e => ?_⟩
    obtain ⟨a, b, c, xs, d, da⟩ := h2 i ds e
    exact ⟨a, by rw [upd_ne (hf i ds _ e a)]; exact b, c, xs, d, da.mono (same_upd hg)⟩
theorem ej_l {e : Expr} {x : m (List D)} (h : LJ X EX e g x) : EJ X EX e g (x >>= fun ds => pure (.list ds)) :=
  PE.weak h fun σ H Q ⟨B, G, n, φ, ξ, o, s, q, xw⟩ => ⟨B, G, n, _, ξ, o, Mo.sat_bind s, fun p xs H1 G1 ds n1 o1 g1 hb hg hh hf a1 s1 => by
    obtain ⟨o2, g2⟩ := o1.freeze hb hg hh hf
    exact q _ H1 _ _ n1 o2 (g1.trans g2) (.lst upd_same (a1.mono g2)) (Mo.sat_pure s1), xw⟩
end
end DD
namespace DD
open PySem PySem.Spec PyProof.Rows L2
/-! ### what is walked -/
structure WalkD (K : PySem.W.Frag) (G : Hp) (J : It) (ds : List D) : Prop where
  goes : ∀ i H, i < ds.length → SubM G H → J.go i H
  stops : ∀ H, SubM G H → J.stop ds.length H
  yields : ∀ i H G1 x H', i < ds.length → Same G G1 → SubM G1 H → J.yld i H x H' → ∃ d G', ds[i]? = some d ∧ Gr H G1 H' G' ∧ Da K G' x d
theorem walkD_list {K : PySem.W.Frag} {G : Hp} {a : Addr} {xs : List V} {ds : List D} (h : SqL K G a xs) (da : DaAll K G xs ds) : WalkD K G (Itl K a) ds where
  goes := fun i H hi s => by
    rw [← da.length] at hi
    exact ⟨xs, xs[i], s.seq h, by simp [hi]⟩
  stops := fun H s => ⟨xs, s.seq h, by rw [da.length]; exact Nat.le_refl _⟩
  yields := fun i H G1 x H' hi s s1 y => by
    obtain ⟨e, y⟩ := y
    subst e
    obtain ⟨d, e1, e2⟩ := da.getV (y xs ((s.subm s1).seq h))
    exact ⟨d, G1, e1, Gr.refl s1, e2.mono s⟩
theorem walkD_tup {K : PySem.W.Frag} {G : Hp} {a : Addr} {xs : List V} {ds : List D} (h : SqT K G a xs) (da : DaAll K G xs ds) : WalkD K G (Itt K a) ds where
  goes := fun i H hi s => by
    rw [← da.length] at hi
    exact ⟨xs, xs[i], sameT s h, by simp [hi]⟩
  stops := fun H s => ⟨xs, sameT s h, by rw [da.length]; exact Nat.le_refl _⟩
  yields := fun i H G1 x H' hi s s1 y => by
    obtain ⟨e, y⟩ := y
    subst e
    obtain ⟨d, e1, e2⟩ := da.getV (y xs (sameT (s.subm s1) h))
    exact ⟨d, G1, e1, Gr.refl s1, e2.mono s⟩
def rangeL (lo : Int) (n : Nat) : List D := (List.range n).map fun i => .int (lo + (i : Nat))
theorem walkD_range {K : PySem.W.Frag} {G : Hp} {lo : Int} {n : Nat} : WalkD K G (Itr lo n) (rangeL lo n) where
  goes := fun i H hi _ => by
    show i < n
    simpa [rangeL] using hi
  stops := fun H _ => by show n ≤ (rangeL lo n).length; simp [rangeL]
  yields := fun i H G1 x H' hi s s1 y => by
    obtain ⟨e, y⟩ := y
    subst e y
    have hi' : i < n := by simpa [rangeL] using hi
    exact ⟨.int (lo + (i : Nat)), G1, by simp [rangeL, hi'], Gr.refl s1, .int _⟩
section
variable {m : Type → Type} [Mo m]
def tiJ (X : Cx) (EX : XR) (g : List Sl) (x : m (List D)) : TI := fun σ H R => ∃ B G n φ ξ, Ok X.K B g σ H G n ∧ Mo.sat x n φ ξ ∧ (∀ J H' G' ds n', Ok X.K B g σ H' G' n' → Same G G' → WalkD X.K G' J ds → φ ds n' → R J H') ∧ Xw X B EX ξ
def IJ (X : Cx) (EX : XR) (tg iter : Expr) (g : List Sl) (x : m (List D)) : Prop := PI X tg iter (tiJ X EX g x)
end
theorem _root_.L2.PI.weak {X : Cx} {tg e : Expr} {t t' : TI} (h : PI X tg e t) (w : ∀ σ H R, t' σ H R → t σ H R) : PI X tg e t' := ⟨fun pins s σ H R I q => h.run pins s σ H R I (w _ _ _ q)⟩
/-- a list or a tuple, whichever has come -/
def iSeq (K : PySem.W.Frag) (tl : TE) : TI := fun σ H R => tl σ H fun x H1 => ∃ a, x = .ref a ∧ (((∃ xs, SqL K H1 a xs) ∧ R (Itl K a) H1) ∨ ((∃ xs, SqT K H1 a xs) ∧ R (Itt K a) H1))
theorem pi_seq {X : Cx} {tg l : Expr} {tl : TE} (hl : PE X l tl) : PI X tg l (iSeq X.K tl) := by
  refine ⟨fun pins s σ H R I h => thn (hl.run pins s σ H _ I h) fun v s1 ⟨x, H1, I1, r1, a, e, q⟩ => ?_⟩
  subst e
  cases r1
  rcases q with ⟨⟨xs, hq⟩, q⟩ | ⟨⟨xs, hq⟩, q⟩
  · obtain ⟨its, rv, p, hz⟩ := I1.list hq
    exact wpAny_pyIter_list p.isList ⟨_, [s1.heap.objs.size], _, _, H1, rfl, I1.kept (t' := s1.toks) (fun b o e => Heap.get?_push_of_some _ e), turn_list a _, ⟨_, Heap.get?_push_size _ rfl, rfl, rfl⟩, (fun b hb => by
      rw [List.mem_singleton.mp hb]; exact I1.fpOk (Nat.le_refl _) (I1.hok.fresh (Nat.le_refl _))), q⟩
  · obtain ⟨its, rv, p, hz⟩ := I1.tuple hq
    exact wpAny_pyIter_tuple (show s1.heap.IsTuple a its.toArray from p) ⟨_, [s1.heap.objs.size], _, _, H1, rfl, I1.kept (t' := s1.toks) (fun b o e => Heap.get?_push_of_some _ e), turn_tuple a _, ⟨_, Heap.get?_push_size _ rfl, rfl, rfl⟩, (fun b hb => by
      rw [List.mem_singleton.mp hb]; exact I1.fpOk (Nat.le_refl _) (I1.hok.fresh (Nat.le_refl _))), q⟩
def rangeD1 : D → Option (List D)
  | .int j => if j.natAbs < 2 ^ 62 then some (rangeL 0 j.toNat) else none
  | _ => none
def rangeD2 : D → D → Option (List D)
  | .int i, .int j => if i.natAbs < 2 ^ 62 ∧ j.natAbs < 2 ^ 62 then some (rangeL i (j - i).toNat) else none
  | _, _ => none
section
variable {m : Type → Type} [Mo m] {X : Cx} {EX : XR} {g : List Sl} {tg : Expr}
theorem ij_seq {e : Expr} {x : m D} (h : EJ X EX e g x) : IJ X EX tg e g (x >>= fun d => Mo.lift (itemsD d)) :=
  (pi_seq h).weak fun σ H R ⟨B, G, n, φ, ξ, o, s, q, xw⟩ => te_one o s (fun v H1 G1 d n1 o1 g1 d1 s1 => by
    obtain ⟨ds, ed, pd⟩ := Mo.sat_lift s1
    obtain ⟨a, xs, ev, sq, da⟩ := d1.seq ed
    refine ⟨a, ev, ?_⟩
    rcases sq with sq | sq
    · exact .inr ⟨⟨xs, sameT o1.fm.sub sq⟩, q _ H1 G1 ds n1 o1 g1 (walkD_tup sq da) pd⟩
    · exact .inl ⟨⟨xs, o1.fm.sub.seq sq⟩, q _ H1 G1 ds n1 o1 g1 (walkD_list sq da) pd⟩) xw
/-- a list of one's own, walked while it stands -/
theorem ij_range1 {a : Expr} {p pos : Pos} {x : m D} (hm : X.mg "range" = none) (h : EJ X EX a g x) (hg : Gl X "range" := by rfl) (hs : starEach [a] X.env = [(false, eval a X.env)] := by rfl) (hs' : starEach [a] X.env = (false, eval a X.env) :: starEach [] X.env := by rfl) :
    IJ X EX tg (.Call (.Name "range" p) [a] [] pos) g (x >>= fun d => Mo.lift (rangeD1 d)) :=
  (pi_range1 hg hm (pa_cons h pa_nil hs') hs).weak fun σ H R ⟨B, G, n, φ, ξ, o, s, q, xw⟩ => te_one o s (fun v H1 G1 d n1 o1 g1 d1 s1 => by
    obtain ⟨ds, ed, pd⟩ := Mo.sat_lift s1
    cases d with
    | int j =>
      cases d1
      unfold rangeD1 at ed
      dsimp only at ed
      split at ed
      · rename_i hj
        cases ed
        exact ⟨j, rfl, by omega, by omega, q _ H1 G1 _ n1 o1 g1 walkD_range pd⟩
      · cases ed
    | _ => cases ed) xw
end
/-! ### slots -/
def wipeG (g : List Sl) (vs : List Nat) : List Sl := g.mapIdx fun i s => if vs.contains i then .any else s
def noOwn : List Sl → List Nat → Bool
  | g, vs => vs.all fun i => match g[i]? with
    | some (.own _) => false
    | _ => true
section
variable {K : PySem.W.Frag} {B : Bs} {g : List Sl} {σ : L2.St} {H G H' G' : Hp} {n n' : Wd} {vs : List Nat}
theorem wipeG_some {i : Nat} {s : Sl} (h : (wipeG g vs)[i]? = some s) (ne : s ≠ .any) : g[i]? = some s ∧ i ∉ vs := by
  unfold wipeG at h
  rw [List.getElem?_mapIdx] at h
  cases e : g[i]? with
  | none => rw [e] at h; cases h
  | some t =>
    rw [e] at h
    simp only [Option.map_some, Option.some.injEq] at h
    split at h
    · exact absurd h.symm ne
    · rename_i hc
      subst h
      exact ⟨rfl, by simpa using hc⟩
theorem wipeG_out {i : Nat} (h : i ∉ vs) : (wipeG g vs)[i]? = g[i]? := by
  unfold wipeG
  rw [List.getElem?_mapIdx]
  have : vs.contains i = false := by simpa using h
  cases g[i]? with
  | none => rfl
  | some t => simp [this, h]
theorem wipeG_length : (wipeG g vs).length = g.length := by simp [wipeG]
theorem wipe_length' : (wipe σ vs).length = σ.length := wipe_length σ vs
/-- the block's own slots are forgotten -/
theorem Ok.wipe (o : Ok K B g σ H G n) : Ok K B (wipeG g vs) (L2.wipe σ vs) H G n where
  fm := o.fm
  len := by rw [wipeG_length, wipe_length', o.len]
  val := fun i d e => by
    obtain ⟨e1, e2⟩ := wipeG_some e (by simp)
    obtain ⟨v, h1, h2⟩ := o.val i d e1
    exact ⟨v, by rw [wipe_out e2]; exact h1, h2⟩
  own := by
    obtain ⟨f, h1, h2⟩ := o.own
    refine ⟨f, fun i j ds es a b => h1 i j ds es (wipeG_some a (by simp)).1 (wipeG_some b (by simp)).1, fun i ds e => ?_⟩
    obtain ⟨e1, e2⟩ := wipeG_some e (by simp)
    obtain ⟨a, r⟩ := h2 i ds e1
    exact ⟨by rw [wipe_out e2]; exact a, r⟩
  dck := fun i e => by
    obtain ⟨e1, e2⟩ := wipeG_some e (by simp)
    obtain ⟨a, b, h1, h2⟩ := o.dck i e1
    exact ⟨a, b, h1, by rw [wipe_out e2]; exact h2⟩
  adr := fun i a od fs e => by
    obtain ⟨e1, e2⟩ := wipeG_some e (by simp)
    rw [wipe_out e2]
    exact o.adr i a od fs e1
  fnc := fun i a fs e => by
    obtain ⟨e1, e2⟩ := wipeG_some e (by simp)
    rw [wipe_out e2]
    exact o.fnc i a fs e1
theorem Ok.unwipe (o : Ok K B g σ H G n) (o' : Ok K B (wipeG g vs) (L2.wipe σ vs) H' G' n') (s : Same G G') (ho : noOwn g vs = true) : Ok K B g σ H' G' n' where
  fm := o'.fm
  len := o.len
  val := fun i d e => by
    obtain ⟨v, h1, h2⟩ := o.val i d e
    exact ⟨v, h1, h2.mono s⟩
  own := by
    obtain ⟨f, h1, h2⟩ := o'.own
    have out : ∀ (i : Nat) (ds : List D), g[i]? = some (Sl.own ds) → i ∉ vs := fun i ds e hm => by
      have := List.all_eq_true.mp ho i hm
      rw [e] at this
      cases this
    refine ⟨f, fun i j ds es a b => h1 i j ds es (by rw [wipeG_out (out i ds a)]; exact a) (by rw [wipeG_out (out j es b)]; exact b), fun i ds e => ?_⟩
    obtain ⟨a, r⟩ := h2 i ds (by rw [wipeG_out (out i ds e)]; exact e)
    exact ⟨by rw [wipe_out (out i ds e)] at a; exact a, r⟩
  dck := o.dck
  adr := fun i a od fs e => ⟨(o.adr i a od fs e).1, (o.adr i a od fs e).2.mono s⟩
  fnc := fun i a fs e => ⟨(o.fnc i a fs e).1, (o.fnc i a fs e).2.2 _ _ s (o.fnc i a fs e).2.1, (o.fnc i a fs e).2.2⟩
/-- a slot is given data -/
theorem Ok.setV (o : Ok K B g σ H G n) {i : Nat} {v : V} {d : D} (h : Da K G v d) : Ok K B (g.set i (.val d)) (σ.set i (some v)) H G n where
  fm := o.fm
  len := by rw [List.length_set, List.length_set, o.len]
  val := fun j e he => by
    by_cases hj : j = i
    · subst hj
      by_cases hl : j < g.length
      · rw [List.getElem?_set_self hl] at he
        cases he
        exact ⟨v, by rw [List.getElem?_set_self (by rw [← o.len]; exact hl)], h⟩
      · rw [List.getElem?_eq_none (by rw [List.length_set]; omega)] at he
        cases he
    · rw [List.getElem?_set_ne (Ne.symm hj)] at he ⊢
      exact o.val j e he
  own := by
    obtain ⟨f, h1, h2⟩ := o.own
    have out : ∀ (j : Nat) (ds : List D), (g.set i (.val d))[j]? = some (Sl.own ds) → i ≠ j ∧ g[j]? = some (Sl.own ds) := fun j ds e => by
      by_cases hj : i = j
      · subst hj
        by_cases hl : i < g.length
        · rw [List.getElem?_set_self hl] at e
          cases e
        · rw [List.getElem?_eq_none (by rw [List.length_set]; omega)] at e
          cases e
      · rw [List.getElem?_set_ne hj] at e
        exact ⟨hj, e⟩
    refine ⟨f, fun j k ds es a b => h1 j k ds es (out j ds a).2 (out k es b).2, fun j ds e => ?_⟩
    obtain ⟨hj, e⟩ := out j ds e
    rw [List.getElem?_set_ne hj]
    exact h2 j ds e
  dck := fun j e => by
    by_cases hj : i = j
    · subst hj
      by_cases hl : i < g.length
      · rw [List.getElem?_set_self hl] at e
        cases e
      · rw [List.getElem?_eq_none (by rw [List.length_set]; omega)] at e
        cases e
    · rw [List.getElem?_set_ne hj] at e ⊢
      exact o.dck j e
  adr := fun j b od fs e => by
    by_cases hj : i = j
    · subst hj
      by_cases hl : i < g.length
      · rw [List.getElem?_set_self hl] at e
        cases e
      · rw [List.getElem?_eq_none (by rw [List.length_set]; omega)] at e
        cases e
    · rw [List.getElem?_set_ne hj] at e ⊢
      exact o.adr j b od fs e
  fnc := fun j b fs e => by
    by_cases hj : i = j
    · subst hj
      by_cases hl : i < g.length
      · rw [List.getElem?_set_self hl] at e
        cases e
      · rw [List.getElem?_eq_none (by rw [List.length_set]; omega)] at e
        cases e
    · rw [List.getElem?_set_ne hj] at e ⊢
      exact o.fnc j b fs e
/-- slots are forgotten -/
theorem Ok.sub {g' : List Sl} (o : Ok K B g σ H G n) (hl : g'.length = g.length) (h : ∀ (i : Nat) (s : Sl), g'[i]? = some s → s = .any ∨ g[i]? = some s) : Ok K B g' σ H G n where
  fm := o.fm
  len := hl.trans o.len
  val := fun i d e => by
    rcases h i _ e with z | z
    · cases z
    · exact o.val i d z
  own := by
    obtain ⟨f, h1, h2⟩ := o.own
    have out : ∀ (j : Nat) (ds : List D), g'[j]? = some (Sl.own ds) → g[j]? = some (Sl.own ds) := fun j ds e => by
      rcases h j _ e with z | z
      · cases z
      · exact z
    exact ⟨f, fun i j ds es a b => h1 i j ds es (out i ds a) (out j es b), fun i ds e => h2 i ds (out i ds e)⟩
  dck := fun i e => by
    rcases h i _ e with z | z
    · cases z
    · exact o.dck i z
  adr := fun i a od fs e => by
    rcases h i _ e with z | z
    · cases z
    · exact o.adr i a od fs z
  fnc := fun i a fs e => by
    rcases h i _ e with z | z
    · cases z
    · exact o.fnc i a fs z
theorem wipe_wipe : L2.wipe (L2.wipe σ vs) vs = L2.wipe σ vs := by
  apply List.ext_getElem?
  intro i
  by_cases h : i ∈ vs
  · have key : ∀ (τ : L2.St), (L2.wipe τ vs)[i]? = some none ∨ (L2.wipe τ vs)[i]? = none := fun τ => by
      cases e : (L2.wipe τ vs)[i]? with
      | none => exact .inr rfl
      | some x =>
        cases x with
        | none => exact .inl rfl
        | some v => exact absurd h (wipe_some e).2
    have l1 : (L2.wipe (L2.wipe σ vs) vs).length = (L2.wipe σ vs).length := wipe_length _ _
    rcases key (L2.wipe σ vs) with a | a <;> rcases key σ with b | b
    · rw [a, b]
    · rw [List.getElem?_eq_none_iff] at b
      have : (L2.wipe (L2.wipe σ vs) vs)[i]? = none := List.getElem?_eq_none (by omega)
      rw [this] at a; cases a
    · rw [List.getElem?_eq_none_iff] at a
      have : (L2.wipe σ vs)[i]? = none := List.getElem?_eq_none (by omega)
      rw [this] at b; cases b
    · rw [a, b]
  · rw [wipe_out h]
theorem wipe_set {i : Nat} {x : Option V} (h : i ∈ vs) : L2.wipe (σ.set i x) vs = L2.wipe σ vs := by
  apply List.ext_getElem?
  intro j
  by_cases hj : j ∈ vs
  · have key : ∀ (τ : L2.St), τ.length = σ.length → (L2.wipe τ vs)[j]? = if j < σ.length then some none else none := fun τ hl => by
      have l := wipe_length τ vs
      cases e : (L2.wipe τ vs)[j]? with
      | none =>
        rw [List.getElem?_eq_none_iff] at e
        rw [if_neg (by omega)]
      | some x =>
        obtain ⟨hlt, _⟩ := List.getElem?_eq_some_iff.mp e
        rw [if_pos (by omega)]
        cases x with
        | none => rfl
        | some v => exact absurd hj (wipe_some e).2
    rw [key _ (by simp), key _ rfl]
  · rw [wipe_out hj, wipe_out hj, List.getElem?_set_ne (by rintro rfl; exact hj h)]
theorem wipeG_set {i : Nat} {x : Sl} (h : i ∈ vs) : wipeG (g.set i x) vs = wipeG g vs := by
  apply List.ext_getElem?
  intro j
  unfold wipeG
  rw [List.getElem?_mapIdx, List.getElem?_mapIdx]
  by_cases hj : i = j
  · subst hj
    have : vs.contains i = true := by simpa using h
    by_cases hl : i < g.length
    · rw [List.getElem?_set_self hl, List.getElem?_eq_getElem hl]; simp [this, h]
    · rw [List.getElem?_eq_none (by rw [List.length_set]; omega), List.getElem?_eq_none (by omega)]
  · rw [List.getElem?_set_ne hj]
theorem wipeG_wipeG : wipeG (wipeG g vs) vs = wipeG g vs := by
  apply List.ext_getElem?
  intro j
  unfold wipeG
  rw [List.getElem?_mapIdx, List.getElem?_mapIdx]
  cases g[j]? with
  | none => rfl
  | some t =>
    simp only [Option.map_some]
    split <;> rfl
/-- an object of ours that is neither data nor any slot's -/
structure Side (B : Bs) (g : List Sl) (σ : L2.St) (G : Hp) (p : Addr) : Prop where
  b : B.H p = none
  bg : B.G p = none
  no : G p = none
  f : ∀ (i : Nat) (es : List D) (f : Addr), g[i]? = some (Sl.own es) → σ[i]? = some (some (V.ref f)) → f ≠ p
abbrev Bs.pin (B : Bs) (p : Addr) (u : HO) : Bs := { B with H := upd B.H p u }
theorem Fm.side {p : Addr} (o : Fm K B H G n) (b : B.H p = none) : ¬ B.fp p := by
  rintro (⟨x, y, ed, hxy⟩ | ⟨k, e, _⟩)
  · obtain ⟨_, h1, h2, _⟩ := o.deck x y ed
    rcases hxy with rfl | rfl
    · exact h1 b
    · exact h2 b
  · rw [o.bt p b] at e; cases e
theorem Ok.pin {p : Addr} {u : HO} (o : Ok K B g σ H G n) (s : Side B g σ G p) (h : H p = some u) : Ok K (B.pin p u) g σ H G n where
  fm := {
    keep := fun a x e q => by
      by_cases ha : a = p
      · subst ha
        rw [show (B.pin a u).H a = some u from upd_same] at e
        cases e; exact h
      · rw [show (B.pin p u).H a = B.H a from upd_ne ha] at e
        exact o.fm.keep a x e q
    sub := o.fm.sub
    old := o.fm.old
    obs := o.fm.obs
    bt := fun a e => by
      by_cases ha : a = p
      · subst ha; exact s.bg
      · rw [show (B.pin p u).H a = B.H a from upd_ne ha] at e
        exact o.fm.bt a e
    tg := o.fm.tg
    new := fun a e q => by
      by_cases ha : a = p
      · subst ha; exact s.no
      · rw [show (B.pin p u).H a = B.H a from upd_ne ha] at e
        exact o.fm.new a e q
    deck := fun a b e => by
      obtain ⟨d, h1, h2, h3⟩ := o.fm.deck a b e
      refine ⟨d, ?_, ?_, h3⟩
      · show upd B.H p u a ≠ none
        rw [upd_ne (by rintro rfl; exact h1 s.b)]; exact h1
      · show upd B.H p u b ≠ none
        rw [upd_ne (by rintro rfl; exact h2 s.b)]; exact h2 }
  len := o.len
  val := o.val
  own := by
    obtain ⟨f, h1, h2⟩ := o.own
    refine ⟨f, h1, fun i ds e => ?_⟩
    obtain ⟨a, b, c, r⟩ := h2 i ds e
    refine ⟨a, b, ?_, r⟩
    show upd B.H p u (f i) = none
    rw [upd_ne (s.f i ds _ e a)]; exact c
  dck := o.dck
  adr := o.adr
  fnc := o.fnc
theorem Fm.unpin {H0 G0 : Hp} {n0 : Wd} {p : Addr} {u : HO} (o : Fm K (B.pin p u) H G n) (o0 : Fm K B H0 G0 n0) (b : B.H p = none) : Fm K B H G n where
  keep := fun a x e q => o.keep a x (by
    show upd B.H p u a = some x
    rw [upd_ne (by rintro rfl; rw [b] at e; cases e)]; exact e) q
  sub := o.sub
  old := o.old
  obs := o.obs
  bt := o0.bt
  tg := o.tg
  new := fun a e q => o.new a (by
    show upd B.H p u a ≠ none
    rw [upd_ne (by rintro rfl; exact e b)]; exact e) q
  deck := fun x y e => ⟨(o.deck x y e).1, (o0.deck x y e).2⟩
theorem Ok.unpin {H0 G0 : Hp} {n0 : Wd} {p : Addr} {u : HO} (o : Ok K (B.pin p u) g σ H G n) (o0 : Fm K B H0 G0 n0) (b : B.H p = none) : Ok K B g σ H G n where
  fm := o.fm.unpin o0 b
  len := o.len
  val := o.val
  own := by
    obtain ⟨f, h1, h2⟩ := o.own
    refine ⟨f, h1, fun i ds e => ?_⟩
    obtain ⟨a, c, d, r⟩ := h2 i ds e
    refine ⟨a, c, ?_, r⟩
    have d' : upd B.H p u (f i) = none := d
    by_cases ha : f i = p
    · rw [ha, upd_same] at d'; cases d'
    · rw [upd_ne ha] at d'; exact d'
  dck := o.dck
  adr := o.adr
  fnc := o.fnc
/-- such an object may be changed -/
theorem Ok.poke {p : Addr} {u : HO} (o : Ok K B g σ H G n) (s : Side B g σ G p) : Ok K B g σ (upd H p u) G n where
  fm := {
    keep := fun a x e q => by
      rw [upd_ne (by rintro rfl; rw [s.b] at e; cases e)]
      exact o.fm.keep a x e q
    sub := ⟨fun a x e m => by
      rw [upd_ne (by rintro rfl; rw [s.no] at e; cases e)]
      exact o.fm.sub.h a x e m, fun a e => by
      by_cases ha : a = p
      · subst ha; exact s.no
      · rw [upd_ne ha] at e; exact o.fm.sub.t a e⟩
    obs := ⟨fun a k w e m => by
      obtain ⟨c, h1, h2⟩ := o.fm.obs.at_ a k w e m
      refine ⟨c, h1, h2.mono (Same.refl _) fun x hx => ?_⟩
      rw [upd_ne (by rintro rfl; rw [s.no] at e; cases e)]
      exact hx, o.fm.obs.inj, fun k c e => by
      obtain ⟨a, h2⟩ := o.fm.obs.all k c e
      obtain ⟨u, e, _⟩ := h2.mark
      refine ⟨a, h2.mono (Same.refl _) fun x hx => ?_⟩
      rw [upd_ne (by rintro rfl; rw [s.no] at e; cases e)]
      exact hx⟩
    bt := o.fm.bt
    tg := o.fm.tg
    old := o.fm.old
    new := o.fm.new
    deck := fun a b e => by
      obtain ⟨⟨cs, c, e1, e2, r⟩, h1, h2, h3⟩ := o.fm.deck a b e
      exact ⟨⟨cs, c, by rw [upd_ne (by rintro rfl; exact h1 s.b)]; exact e1, by rw [upd_ne (by rintro rfl; exact h2 s.b)]; exact e2, r⟩, h1, h2, h3⟩ }
  len := o.len
  val := o.val
  own := by
    obtain ⟨f, h1, h2⟩ := o.own
    refine ⟨f, h1, fun i ds e => ?_⟩
    obtain ⟨a, c, d, xs, hx, da⟩ := h2 i ds e
    exact ⟨a, c, d, xs, by rw [upd_ne (s.f i ds _ e a)]; exact hx, da⟩
  dck := o.dck
  adr := o.adr
  fnc := o.fnc
theorem Side.grow {p : Addr} {u : HO} (s : Side B g σ G p) (o : Ok K (B.pin p u) g σ H G' n) : Side B g σ G' p :=
  ⟨s.b, s.bg, o.fm.new p (by show upd B.H p u p ≠ none; rw [upd_same]; simp) s.bg, s.f⟩
theorem Ok.side {p : Addr} (o : Ok K B g σ H G n) (h : H p = none) : Side B g σ G p := by
  obtain ⟨h1, h2⟩ := o.fresh h
  refine ⟨h1, ?_, o.free h, h2⟩
  cases e : B.G p with
  | none => rfl
  | some z => exact absurd h (o.fm.there (o.fm.old _ _ e))
/-! ### comprehensions -/
end
section
variable {m : Type → Type} [Mo m]
def lcA (f : D → m (Option D)) : List D → List D → m (List D)
  | [], acc => pure acc
  | d :: r, acc => f d >>= fun o => lcA f r (acc ++ o.toList)
/-- one turn of a block: target, tests, element -/
def CSem (K : PySem.W.Frag) (g : List Sl) (vs : List Nat) (f : D → m (Option D)) (gT : TG) (tt : TT) (te : TE) : Prop :=
  ∀ (B : Bs) (σ : L2.St) (H G : Hp) (n : Wd) (d : D) (v : V) (φ : Option D → Wd → Prop) (Qy : VK) (Qn : Hp → Prop), Ok K B (wipeG g vs) (L2.wipe σ vs) H G n → Da K G v d → Mo.sat (f d) n φ (fun _ _ => False) →
    (∀ H' G' n' y yv, Ok K B (wipeG g vs) (L2.wipe σ vs) H' G' n' → Same G G' → Da K G' yv y → φ (some y) n' → Qy yv H') →
    (∀ H' G' n', Ok K B (wipeG g vs) (L2.wipe σ vs) H' G' n' → Same G G' → φ none n' → Qn H') →
    gT v (L2.wipe σ vs) H fun σ2 H2 => L2.wipe σ2 vs = L2.wipe σ vs ∧ tt σ2 H2 fun b H3 => if b = true then te σ2 H3 Qy else Qn H3
variable [Calm m] {X : Cx} {EX : XR} {g : List Sl}
theorem tlc_of {gT : TG} {tt : TT} {te : TE} {x : m (List D)} {f : D → m (Option D)} {vs : List Nat} (hsem : CSem X.K g vs f gT tt te) (how : noOwn g vs = true) {σ : L2.St} {H : Hp} {Q : VK}
    (h : tlJ X EX g (x >>= fun ds => Mo.lift (small ds) >>= fun ds => lcA f ds []) σ H Q) : tLc (tiJ X EX g x) gT tt te vs σ H Q := by
  obtain ⟨B, G, n, φ, ξ, o, s, q, xw⟩ := h
  refine ⟨B, G, n, _, ξ, o, Mo.sat_bind s, fun J H1 G1 ds n1 o1 g1 wk s1 => ?_, xw⟩
  obtain ⟨es, ee, s1'⟩ := Mo.sat_lift (Mo.sat_bind s1)
  obtain ⟨rfl, hlen⟩ := small_eq ee
  intro D hD
  have sd := o1.side hD
  refine ⟨fun i k H' => k = es.length - i ∧ i ≤ es.length ∧ ∃ G' n' acc ac, Ok X.K B g σ H' G' n' ∧ Same G1 G' ∧ Side B g σ G' D ∧ H' D = some (.lst acc) ∧ DaAll X.K G' acc ac ∧ acc.length ≤ i ∧ Mo.sat (lcA f (es.drop i) ac) n' φ ξ, ⟨es.length, by omega, Nat.zero_le _, G1, n1, [], [], o1.raw hD, Same.refl _, sd, upd_same, .nil, Nat.zero_le _, s1'⟩, ?_⟩
  rintro i k H' ⟨rfl, hi, G', n', acc, ac, o', g', sd', hD', da, hal, s'⟩
  by_cases hlt : i < es.length
  · refine .inr ⟨wk.goes i H' hlt (g'.subm o'.fm.sub), fun H2 => ∃ G2 n2 acc2 ac2, Ok X.K B g σ H2 G2 n2 ∧ Same G1 G2 ∧ Side B g σ G2 D ∧ H2 D = some (.lst acc2) ∧ DaAll X.K G2 acc2 ac2 ∧ acc2.length ≤ i + 1 ∧ Mo.sat (lcA f (es.drop (i + 1)) ac2) n2 φ ξ,
      fun H2 ⟨G2, n2, acc2, ac2, r⟩ => ⟨es.length - (i + 1), by omega, rfl, hlt, G2, n2, acc2, ac2, r⟩, fun v H2 hy => ?_⟩
    obtain ⟨d, G2, ed, gr, dv⟩ := wk.yields i H' G' v H2 hlt g' o'.fm.sub hy
    have o2 := o'.gr gr
    have sd2 : Side B g σ G2 D := ⟨sd'.b, sd'.bg, gr.new D (by rw [hD']; simp) sd'.no, sd'.f⟩
    have hD2 : H2 D = some (.lst acc) := gr.h _ _ hD'
    have e0 : es.drop i = d :: es.drop (i + 1) := by
      rw [List.drop_eq_getElem_cons hlt]
      congr 1
      rw [List.getElem?_eq_getElem hlt] at ed
      exact Option.some.inj ed
    rw [e0] at s'
    have s2 := Calm.calm (ξ' := fun _ _ => False) (Mo.sat_bind s')
    have sdw : Side B (wipeG g vs) (L2.wipe σ vs) G2 D := ⟨sd2.b, sd2.bg, sd2.no, fun j es2 f2 e1 e2 => sd2.f j es2 f2 (wipeG_some e1 (by simp)).1 (wipe_some e2).1⟩
    refine hsem (B.pin D (.lst acc)) σ H2 G2 n' d v _ _ _ (o2.wipe.pin sdw hD2) dv s2 (fun H3 G3 n3 y yv o3 g3 dy s3 => ?_) (fun H3 G3 n3 o3 g3 s3 => ?_)
    · have o3' := o2.unwipe (o3.unpin o2.fm sd2.b) g3 how
      have sd3 : Side B g σ G3 D := ⟨sd2.b, sd2.bg, (sdw.grow o3).no, sd2.f⟩
      have h3 : H3 D = some (.lst acc) := o3.fm.keep D _ upd_same (o2.fm.side sd2.b)
      refine ⟨acc, h3, Nat.lt_of_le_of_lt hal (Nat.lt_of_lt_of_le hlt (le_line hlen)), G3, n3, _, ac ++ [y], o3'.poke sd3, (g'.trans gr.g).trans g3, sd3, upd_same, ((da.mono gr.g).mono g3).append (.one dy), ?_, s3⟩
      rw [List.length_append, List.length_singleton]
      omega
    · have o3' := o2.unwipe (o3.unpin o2.fm sd2.b) g3 how
      have sd3 : Side B g σ G3 D := ⟨sd2.b, sd2.bg, (sdw.grow o3).no, sd2.f⟩
      have h3 : H3 D = some (.lst acc) := o3.fm.keep D _ upd_same (o2.fm.side sd2.b)
      refine ⟨G3, n3, acc, ac, o3', (g'.trans gr.g).trans g3, sd3, h3, (da.mono gr.g).mono g3, by omega, ?_⟩
      have e9 : ac ++ (none : Option PyData).toList = ac := by simp
      have s4 : Mo.sat (lcA f (es.drop (i + 1)) (ac ++ (none : Option PyData).toList)) n3 φ ξ := s3
      rw [e9] at s4
      exact s4
  · have e : i = es.length := by omega
    subst e
    rw [List.drop_length] at s'
    have p := Mo.sat_pure s'
    exact .inl ⟨wk.stops H' (g'.subm o'.fm.sub), q D acc H' G' ac n' o' (g1.trans g') sd'.b sd'.no hD' sd'.f da p⟩
/-- a comprehension as a value, and as what a name is given on one line -/
structure LcP (X : Cx) (EX : XR) (e : Expr) (g : List Sl) (x : m (List D)) : Prop where
  expr : LJ X EX e g x
  stmt : ∀ {i : Nat} {y : Str} {py spos : Pos}, X.N.Nodup → X.N[i]? = some y → X.env.scope.names.lookup y = some .local → swapsWith e (some (.Name y py)) spos.line X.env = pure true → PS X (.Assign [.Name y py] e spos) (tAsg (tlJ X EX g x) (gName i))
theorem lj_lc {elt tg iter : Expr} {ifs : List Expr} {scope : Scope} {own : List (Str × Nat)} {pos : Pos} {gT : TG} {tt : TT} {te : TE} {x : m (List D)} {f : D → m (Option D)} (hc : X.calm = true) (hN : X.N.Nodup) (hi : IJ X EX tg iter g x) (ok : BlkOk X.N X.env.scope scope own)
    (hg : ∀ (s : Shared) (H : Hp) (C : Addr) (cl : List (Str × Addr)) (fp : List Addr), PG (X.blk s H scope (compEnvC scope cl C X.env) fp) tg gT) (ht : ∀ (s : Shared) (H : Hp) (C : Addr) (cl : List (Str × Addr)) (fp : List Addr), PTs (X.blk s H scope (compEnvC scope cl C X.env) fp) ifs tt)
    (he : ∀ (s : Shared) (H : Hp) (C : Addr) (cl : List (Str × Addr)) (fp : List Addr), PE (X.blk s H scope (compEnvC scope cl C X.env) fp) elt te) (hsem : CSem X.K g (own.map (·.2)) f gT tt te) (how : noOwn g (own.map (·.2)) = true) (hs : ∀ x, foldedSetIterable iter X.env x = pure x := by intro _; rfl) :
    LcP X EX (.ListComp elt [⟨tg, iter, ifs, 0⟩] scope pos) g (x >>= fun ds => Mo.lift (small ds) >>= fun ds => lcA f ds []) :=
  ⟨(pe_lc hc hN hi ok hg ht he hs).weak fun σ H Q h => tlc_of hsem how h, fun nd hy hl hsw => (ps_setLc hc nd hy hl hsw hi ok hg ht he hs).weak fun De σ H h => tlc_of hsem how h⟩
end
end DD
namespace DD
open PySem PySem.Spec PyProof.Rows L2
theorem pe_u {ι : Type} {X : Cx} {e : Expr} {F : ι → TE} (h : ∀ i, PE X e (F i)) : PE X e (fun σ H Q => ∃ i, F i σ H Q) := ⟨fun pins s σ H Q I ⟨i, q⟩ => (h i).run pins s σ H Q I q⟩
theorem pt_u {ι : Type} {X : Cx} {e : Expr} {F : ι → TT} (h : ∀ i, PT X e (F i)) : PT X e (fun σ H Q => ∃ i, F i σ H Q) := ⟨fun pins s σ H Q I ⟨i, q⟩ => (h i).run pins s σ H Q I q⟩
section
variable {K : PySem.W.Frag} {B : Bs} {g : List Sl} {σ : L2.St} {H G H' G' : Hp} {n n' : Wd} {vs : List Nat}
theorem Ok.rewipe {g' : List Sl} {σ' : L2.St} (o : Ok K B g' σ' H G n) (eg : wipeG g' vs = wipeG g vs) (es : L2.wipe σ' vs = L2.wipe σ vs) : Ok K B (wipeG g vs) (L2.wipe σ vs) H G n := by
  have := o.wipe (vs := vs)
  rw [eg, es] at this
  exact this
end
section
variable {m : Type → Type} [Mo m] [Calm m] {X : Cx} {EX : XR} {g : List Sl}
/-- the element alone -/
def someM (x : m D) : m (Option D) := x >>= fun y => pure (some y)
def ifM (t : m Bool) (x : m D) : m (Option D) := t >>= fun k => if k = true then someM x else pure none
theorem csem_end {vs : List Nat} {g' : List Sl} {σ σ' : L2.St} {B : Bs} {H G : Hp} {n : Wd} {x : m D} {φ : Option D → Wd → Prop} {Qy : VK} (eg : wipeG g' vs = wipeG g vs) (es : L2.wipe σ' vs = L2.wipe σ vs) (o : Ok X.K B g' σ' H G n) (s : Mo.sat (someM x) n φ (fun _ _ => False))
    (hy : ∀ H' G' n' y yv, Ok X.K B (wipeG g vs) (L2.wipe σ vs) H' G' n' → Same G G' → Da X.K G' yv y → φ (some y) n' → Qy yv H') : teJ X X0 g' x σ' H Qy :=
  ⟨B, G, n, _, _, o, Mo.sat_bind s, fun v H' G' d n' o' g' dv s' => hy H' G' n' d v (o'.rewipe eg es) g' dv (Mo.sat_pure s'), fun _ _ _ _ _ _ _ z => z.elim⟩
theorem csem1 {i : Nat} {vs : List Nat} {f : D → m D} (hin : i ∈ vs) : CSem X.K g vs (fun d => someM (f d)) (gName i) tYes (fun σ H Q => ∃ d : D, teJ X X0 ((wipeG g vs).set i (.val d)) (f d) σ H Q) := by
  intro B σ H G n d v φ Qy Qn o dv s hy hn
  have es : L2.wipe ((L2.wipe σ vs).set i (some v)) vs = L2.wipe σ vs := by rw [wipe_set hin, wipe_wipe]
  refine ⟨es, ?_⟩
  unfold tYes; dsimp only
  rw [if_pos rfl]
  exact ⟨d, csem_end (by rw [wipeG_set hin, wipeG_wipeG]) es (o.setV dv) s hy⟩
theorem csem1i {i : Nat} {vs : List Nat} {f : D → m D} {t : D → m Bool} (hin : i ∈ vs) : CSem X.K g vs (fun d => ifM (t d) (f d)) (gName i) (fun σ H Q => ∃ d : D, ttJ X X0 ((wipeG g vs).set i (.val d)) (t d) σ H Q) (fun σ H Q => ∃ d : D, teJ X X0 ((wipeG g vs).set i (.val d)) (f d) σ H Q) := by
  intro B σ H G n d v φ Qy Qn o dv s hy hn
  have es : L2.wipe ((L2.wipe σ vs).set i (some v)) vs = L2.wipe σ vs := by rw [wipe_set hin, wipe_wipe]
  have eg : wipeG ((wipeG g vs).set i (.val d)) vs = wipeG g vs := by rw [wipeG_set hin, wipeG_wipeG]
  refine ⟨es, d, tt_one (EX := X0) (o.setV dv) s (fun b H1 G1 n1 o1 g1 s1 => ?_) fun _ _ _ _ _ _ _ z => z.elim⟩
  cases b with
  | true =>
    rw [if_pos rfl] at s1 ⊢
    exact ⟨d, csem_end eg es o1 s1 fun H' G' n' y yv o' g' => hy H' G' n' y yv o' (g1.trans g')⟩
  | false =>
    rw [if_neg Bool.false_ne_true] at s1 ⊢
    exact hn H1 G1 n1 (o1.rewipe eg es) g1 (Mo.sat_pure s1)
/-- two names -/
def pairM {α : Type} (d : D) (f : D → D → m α) : m α := match d with
  | .tuple [a, b] => f a b
  | _ => Mo.lift none
theorem pair_set {vs : List Nat} {i j : Nat} {φ : Option D → Wd → Prop} {B : Bs} {σ : L2.St} {H G : Hp} {n : Wd} {d : D} {v : V} {f : D → D → m (Option D)} {Q : L2.St → Hp → Prop} (hi : i ∈ vs) (hj : j ∈ vs) (o : Ok X.K B (wipeG g vs) (L2.wipe σ vs) H G n) (dv : Da X.K G v d) (s : Mo.sat (pairM d f) n φ (fun _ _ => False))
    (q : ∀ a b u w, L2.wipe (((L2.wipe σ vs).set i (some u)).set j (some w)) vs = L2.wipe σ vs → wipeG (((wipeG g vs).set i (.val a)).set j (.val b)) vs = wipeG g vs → Ok X.K B (((wipeG g vs).set i (.val a)).set j (.val b)) (((L2.wipe σ vs).set i (some u)).set j (some w)) H G n → Mo.sat (f a b) n φ (fun _ _ => False) → Q (((L2.wipe σ vs).set i (some u)).set j (some w)) H) :
    gTup X.K 2 (gCons (gName i) (gCons (gName j) gNil)) v (L2.wipe σ vs) H Q := by
  unfold pairM at s
  split at s
  · rename_i a b
    cases dv with
    | tup h da =>
      cases da with
      | cons d1 r =>
        cases r with
        | cons d2 r =>
          cases r
          refine ⟨_, _, rfl, sameT o.fm.sub h, rfl, _, _, rfl, _, _, rfl, rfl, q a b _ _ ?_ ?_ ((o.setV d1).setV d2) s⟩
          · rw [wipe_set hj, wipe_set hi, wipe_wipe]
          · rw [wipeG_set hj, wipeG_set hi, wipeG_wipeG]
  · obtain ⟨_, e, _⟩ := Mo.sat_lift s
    cases e
theorem csem2 {i j : Nat} {vs : List Nat} {f : D → D → m D} (hi : i ∈ vs) (hj : j ∈ vs) : CSem X.K g vs (fun d => pairM d fun a b => someM (f a b)) (gTup X.K 2 (gCons (gName i) (gCons (gName j) gNil))) tYes
    (fun σ H Q => ∃ d : D × D, teJ X X0 (((wipeG g vs).set i (.val d.1)).set j (.val d.2)) (f d.1 d.2) σ H Q) := by
  intro B σ H G n d v φ Qy Qn o dv s hy hn
  refine pair_set hi hj o dv s fun a b u w es eg o' s' => ⟨es, ?_⟩
  unfold tYes; dsimp only
  rw [if_pos rfl]
  exact ⟨(a, b), csem_end eg es o' s' hy⟩
theorem csem2i {i j : Nat} {vs : List Nat} {f : D → D → m D} {t : D → D → m Bool} (hi : i ∈ vs) (hj : j ∈ vs) : CSem X.K g vs (fun d => pairM d fun a b => ifM (t a b) (f a b)) (gTup X.K 2 (gCons (gName i) (gCons (gName j) gNil)))
    (fun σ H Q => ∃ d : D × D, ttJ X X0 (((wipeG g vs).set i (.val d.1)).set j (.val d.2)) (t d.1 d.2) σ H Q) (fun σ H Q => ∃ d : D × D, teJ X X0 (((wipeG g vs).set i (.val d.1)).set j (.val d.2)) (f d.1 d.2) σ H Q) := by
  intro B σ H G n d v φ Qy Qn o dv s hy hn
  refine pair_set hi hj o dv s fun a b u w es eg o' s' => ⟨es, (a, b), tt_one (EX := X0) o' s' (fun k H1 G1 n1 o1 g1 s1 => ?_) fun _ _ _ _ _ _ _ z => z.elim⟩
  cases k with
  | true =>
    rw [if_pos rfl] at s1 ⊢
    exact ⟨(a, b), csem_end eg es o1 s1 fun H' G' n' y yv o' g' => hy H' G' n' y yv o' (g1.trans g')⟩
  | false =>
    rw [if_neg Bool.false_ne_true] at s1 ⊢
    exact hn H1 G1 n1 (o1.rewipe eg es) g1 (Mo.sat_pure s1)
theorem ej_blk {s : Shared} {H : Hp} {scope : Scope} {env : Env} {fp : List Addr} {e : Expr} {x : m D} (h : EJ (X.blk s H scope env fp) X0 e g x) : PE (X.blk s H scope env fp) e (teJ X X0 g x) := h
theorem tj_blk {s : Shared} {H : Hp} {scope : Scope} {env : Env} {fp : List Addr} {e : Expr} {x : m Bool} (h : TJ (X.blk s H scope env fp) X0 e g x) : PT (X.blk s H scope env fp) e (ttJ X X0 g x) := h
/-- [e for x in it] -/
theorem lj_lc1 (own : List (Str × Nat)) (i : Nat) {elt tg iter : Expr} {scope : Scope} {pos : Pos} {x : m (List D)} {f : D → m D} (hN : X.N.Nodup) (hi : IJ X EX tg iter g x) (ok : BlkOk X.N X.env.scope scope own)
    (hg : ∀ (s : Shared) (H : Hp) (C : Addr) (cl : List (Str × Addr)) (fp : List Addr), PG (X.blk s H scope (compEnvC scope cl C X.env) fp) tg (gName i))
    (he : ∀ (s : Shared) (H : Hp) (C : Addr) (cl : List (Str × Addr)) (fp : List Addr) (d : D), EJ (X.blk s H scope (compEnvC scope cl C X.env) fp) X0 elt ((wipeG g (own.map (·.2))).set i (.val d)) (f d))
    (hin : i ∈ own.map (·.2) := by decide) (how : noOwn g (own.map (·.2)) = true := by rfl) (hc : X.calm = true := by rfl) (hs : ∀ x, foldedSetIterable iter X.env x = pure x := by intro _; rfl) :
    LcP X EX (.ListComp elt [⟨tg, iter, [], 0⟩] scope pos) g (x >>= fun ds => Mo.lift (small ds) >>= fun ds => lcA (fun d => someM (f d)) ds []) :=
  lj_lc hc hN hi ok hg (fun _ _ _ _ _ => pts_nil) (fun s H C cl fp => pe_u fun d => ej_blk (he s H C cl fp d)) (csem1 hin) how hs
/-- [e for x in it if t] -/
theorem lj_lc1i (own : List (Str × Nat)) (i : Nat) {elt tg iter c : Expr} {scope : Scope} {pos : Pos} {x : m (List D)} {f : D → m D} {t : D → m Bool} (hN : X.N.Nodup) (hi : IJ X EX tg iter g x) (ok : BlkOk X.N X.env.scope scope own)
    (hg : ∀ (s : Shared) (H : Hp) (C : Addr) (cl : List (Str × Addr)) (fp : List Addr), PG (X.blk s H scope (compEnvC scope cl C X.env) fp) tg (gName i))
    (ht : ∀ (s : Shared) (H : Hp) (C : Addr) (cl : List (Str × Addr)) (fp : List Addr) (d : D), TJ (X.blk s H scope (compEnvC scope cl C X.env) fp) X0 c ((wipeG g (own.map (·.2))).set i (.val d)) (t d))
    (he : ∀ (s : Shared) (H : Hp) (C : Addr) (cl : List (Str × Addr)) (fp : List Addr) (d : D), EJ (X.blk s H scope (compEnvC scope cl C X.env) fp) X0 elt ((wipeG g (own.map (·.2))).set i (.val d)) (f d))
    (hin : i ∈ own.map (·.2) := by decide) (how : noOwn g (own.map (·.2)) = true := by rfl) (hc : X.calm = true := by rfl) (hs : ∀ x, foldedSetIterable iter X.env x = pure x := by intro _; rfl) :
    LcP X EX (.ListComp elt [⟨tg, iter, [c], 0⟩] scope pos) g (x >>= fun ds => Mo.lift (small ds) >>= fun ds => lcA (fun d => ifM (t d) (f d)) ds []) :=
  lj_lc hc hN hi ok hg (fun s H C cl fp => pts_one (pt_u fun d => tj_blk (ht s H C cl fp d))) (fun s H C cl fp => pe_u fun d => ej_blk (he s H C cl fp d)) (csem1i hin) how hs
/-- [e for x, y in it] -/
theorem lj_lc2 (own : List (Str × Nat)) (i j : Nat) {elt tg iter : Expr} {scope : Scope} {pos : Pos} {x : m (List D)} {f : D → D → m D} (hN : X.N.Nodup) (hi : IJ X EX tg iter g x) (ok : BlkOk X.N X.env.scope scope own)
    (hg : ∀ (s : Shared) (H : Hp) (C : Addr) (cl : List (Str × Addr)) (fp : List Addr), PG (X.blk s H scope (compEnvC scope cl C X.env) fp) tg (gTup X.K 2 (gCons (gName i) (gCons (gName j) gNil))))
    (he : ∀ (s : Shared) (H : Hp) (C : Addr) (cl : List (Str × Addr)) (fp : List Addr) (a b : D), EJ (X.blk s H scope (compEnvC scope cl C X.env) fp) X0 elt (((wipeG g (own.map (·.2))).set i (.val a)).set j (.val b)) (f a b))
    (hin : i ∈ own.map (·.2) := by decide) (hjn : j ∈ own.map (·.2) := by decide) (how : noOwn g (own.map (·.2)) = true := by rfl) (hc : X.calm = true := by rfl) (hs : ∀ x, foldedSetIterable iter X.env x = pure x := by intro _; rfl) :
    LcP X EX (.ListComp elt [⟨tg, iter, [], 0⟩] scope pos) g (x >>= fun ds => Mo.lift (small ds) >>= fun ds => lcA (fun d => pairM d fun a b => someM (f a b)) ds []) :=
  lj_lc hc hN hi ok hg (fun _ _ _ _ _ => pts_nil) (fun s H C cl fp => pe_u fun d => ej_blk (he s H C cl fp d.1 d.2)) (csem2 hin hjn) how hs
/-- [e for x, y in it if t] -/
theorem lj_lc2i (own : List (Str × Nat)) (i j : Nat) {elt tg iter c : Expr} {scope : Scope} {pos : Pos} {x : m (List D)} {f : D → D → m D} {t : D → D → m Bool} (hN : X.N.Nodup) (hi : IJ X EX tg iter g x) (ok : BlkOk X.N X.env.scope scope own)
    (hg : ∀ (s : Shared) (H : Hp) (C : Addr) (cl : List (Str × Addr)) (fp : List Addr), PG (X.blk s H scope (compEnvC scope cl C X.env) fp) tg (gTup X.K 2 (gCons (gName i) (gCons (gName j) gNil))))
    (ht : ∀ (s : Shared) (H : Hp) (C : Addr) (cl : List (Str × Addr)) (fp : List Addr) (a b : D), TJ (X.blk s H scope (compEnvC scope cl C X.env) fp) X0 c (((wipeG g (own.map (·.2))).set i (.val a)).set j (.val b)) (t a b))
    (he : ∀ (s : Shared) (H : Hp) (C : Addr) (cl : List (Str × Addr)) (fp : List Addr) (a b : D), EJ (X.blk s H scope (compEnvC scope cl C X.env) fp) X0 elt (((wipeG g (own.map (·.2))).set i (.val a)).set j (.val b)) (f a b))
    (hin : i ∈ own.map (·.2) := by decide) (hjn : j ∈ own.map (·.2) := by decide) (how : noOwn g (own.map (·.2)) = true := by rfl) (hc : X.calm = true := by rfl) (hs : ∀ x, foldedSetIterable iter X.env x = pure x := by intro _; rfl) :
    LcP X EX (.ListComp elt [⟨tg, iter, [c], 0⟩] scope pos) g (x >>= fun ds => Mo.lift (small ds) >>= fun ds => lcA (fun d => pairM d fun a b => ifM (t a b) (f a b)) ds []) :=
  lj_lc hc hN hi ok hg (fun s H C cl fp => pts_one (pt_u fun d => tj_blk (ht s H C cl fp d.1 d.2))) (fun s H C cl fp => pe_u fun d => ej_blk (he s H C cl fp d.1 d.2)) (csem2i hin hjn) how hs
end
end DD
namespace DD
open PySem PySem.Spec PyProof.Rows L2
/-! ### statements -/
inductive Fl (A : Type) where
  | nx (a : A) | rt (d : D)
section
variable {m : Type → Type} [Mo m] {A A' : Type}
def tsJ (X : Cx) (EX : XR) (g : List Sl) (x : m A) (P : A → List Sl) : TS := fun De σ H => ∃ B G n φ ξ, Ok X.K B g σ H G n ∧ Mo.sat x n φ ξ ∧ (∀ a σ' H' G' n', Ok X.K B (P a) σ' H' G' n' → Same G G' → φ a n' → De.nx σ' H') ∧ Xw X B EX ξ
/-- a plain statement: no return within -/
def SJ (X : Cx) (EX : XR) (s : Stmt) (g : List Sl) (x : m A) (P : A → List Sl) : Prop := PS X s (tsJ X EX g x P)
def tbJ (X : Cx) (EX : XR) (g : List Sl) (x : m (Fl A)) (P : A → List Sl) : TS := fun De σ H => ∃ B G n φ ξ, Ok X.K B g σ H G n ∧ Mo.sat x n φ ξ ∧ (∀ a σ' H' G' n', Ok X.K B (P a) σ' H' G' n' → Same G G' → φ (.nx a) n' → De.nx σ' H') ∧
  (∀ v H' G' d n', Fm X.K B H' G' n' → Da X.K G' v d → φ (.rt d) n' → De.rt v H') ∧ Xw X B EX ξ
/-- a block that may end or return -/
def BJ (X : Cx) (EX : XR) (ss : List Stmt) (g : List Sl) (x : m (Fl A)) (P : A → List Sl) : Prop := PSs X ss (tbJ X EX g x P)
def tfJ (X : Cx) (EX : XR) (fall : Bool) (g : List Sl) (x : m D) : TS := fun De σ H => ∃ B G n φ ξ, Ok X.K B g σ H G n ∧ Mo.sat x n φ ξ ∧ (∀ v H' G' d n', Fm X.K B H' G' n' → Da X.K G' v d → φ d n' → De.rt v H') ∧
  (fall = true → ∀ σ' H' G' n', Fm X.K B H' G' n' → φ .none n' → De.nx σ' H') ∧ Xw X B EX ξ
/-- the rest of a def's body (fall: it may come to its end, which hands back None) -/
def FJ (X : Cx) (EX : XR) (fall : Bool) (ss : List Stmt) (g : List Sl) (x : m D) : Prop := PSs X ss (tfJ X EX fall g x)
end
section
variable {m : Type → Type} [Mo m] {A A' : Type} {X : Cx} {EX : XR} {g : List Sl} {fall : Bool}
theorem fj_seq {s : Stmt} {rest : List Stmt} {x : m A} {P : A → List Sl} {y : A → m D} (h : SJ X EX s g x P) (hr : ∀ a, FJ X EX fall rest (P a) (y a)) : FJ X EX fall (s :: rest) g (x >>= y) :=
  (pss_cons h (u := fun De σ H => ∃ a, tfJ X EX fall (P a) (y a) De σ H) ⟨fun pins s σ H De I ⟨a, q⟩ => (hr a).run pins s σ H De I q⟩).weak fun De σ H ⟨B, G, n, φ, ξ, o, s, q1, q2, xw⟩ =>
    ⟨B, G, n, _, ξ, o, Mo.sat_bind s, fun a σ' H' G' n' o' g' s' => ⟨a, B, G', n', φ, ξ, o', s', q1, q2, xw⟩, xw⟩
theorem bj_seq {s : Stmt} {rest : List Stmt} {x : m A} {P : A → List Sl} {y : A → m (Fl A')} {P' : A' → List Sl} (h : SJ X EX s g x P) (hr : ∀ a, BJ X EX rest (P a) (y a) P') : BJ X EX (s :: rest) g (x >>= y) P' :=
  (pss_cons h (u := fun De σ H => ∃ a, tbJ X EX (P a) (y a) P' De σ H) ⟨fun pins s σ H De I ⟨a, q⟩ => (hr a).run pins s σ H De I q⟩).weak fun De σ H ⟨B, G, n, φ, ξ, o, s, q1, q2, xw⟩ =>
    ⟨B, G, n, _, ξ, o, Mo.sat_bind s, fun a σ' H' G' n' o' g' s' => ⟨a, B, G', n', φ, ξ, o', s', fun c τ K' L' k oc gc pc => q1 c τ K' L' k oc (g'.trans gc) pc, q2, xw⟩, xw⟩
/-- what a later block need not know is forgotten -/
def Sub : List Sl → List Sl → Prop
  | [], [] => True
  | s :: g, t :: h => (t = .any ∨ t = s) ∧ Sub g h
  | _, _ => False
theorem Sub.len : ∀ {g h : List Sl}, Sub g h → h.length = g.length
  | [], [], _ => rfl
  | _ :: _, _ :: _, q => by simp [Sub.len q.2]
  | [], _ :: _, q => q.elim
  | _ :: _, [], q => q.elim
theorem Sub.get : ∀ {g h : List Sl}, Sub g h → ∀ (i : Nat) (s : Sl), h[i]? = some s → s = .any ∨ g[i]? = some s
  | [], [], _, i, s, e => by simp at e
  | a :: g, b :: h, q, 0, s, e => by
    simp at e
    subst e
    rcases q.1 with z | z
    · exact .inl z
    · exact .inr (by simp [z])
  | a :: g, b :: h, q, i + 1, s, e => by
    simp only [List.getElem?_cons_succ] at e ⊢
    exact Sub.get q.2 i s e
  | [], _ :: _, q, _, _, _ => q.elim
  | _ :: _, [], q, _, _, _ => q.elim
theorem Ok.forget {K : PySem.W.Frag} {B : Bs} {σ : L2.St} {H G : Hp} {n : Wd} {g' : List Sl} (o : Ok K B g σ H G n) (h : Sub g g') : Ok K B g' σ H G n := o.sub h.len h.get
theorem fj_nil : FJ (m := m) X EX true [] g (pure .none) := pss_nil.weak fun De σ H ⟨B, G, n, φ, ξ, o, s, q1, q2, xw⟩ => q2 rfl σ H G n o.fm (Mo.sat_pure s)
theorem bj_nil {a : A} {P : A → List Sl} (h : Sub g (P a)) : BJ (m := m) X EX [] g (pure (.nx a)) P := pss_nil.weak fun De σ H ⟨B, G, n, φ, ξ, o, s, q1, q2, xw⟩ => q1 a σ H G n (o.forget h) (Same.refl _) (Mo.sat_pure s)
theorem pss_ret {e : Expr} {rest : List Stmt} {pos : Pos} {te : TE} (h : PE X e te) : PSs X (.Return (some e) pos :: rest) (fun De σ H => te σ H De.rt) := (pss_cons (ps_ret h) (u := tNever) ⟨fun _ _ _ _ _ _ h => h.elim⟩)
theorem fj_ret {e : Expr} {rest : List Stmt} {pos : Pos} {x : m D} (h : EJ X EX e g x) : FJ X EX fall (.Return (some e) pos :: rest) g x :=
  (pss_ret h).weak fun De σ H ⟨B, G, n, φ, ξ, o, s, q1, q2, xw⟩ => ⟨B, G, n, φ, ξ, o, s, fun v H' G' d n' o' g' d' p => q1 v H' G' d n' o'.fm d' p, xw⟩
theorem bj_ret {e : Expr} {rest : List Stmt} {pos : Pos} {x : m D} {P : A → List Sl} (h : EJ X EX e g x) : BJ X EX (.Return (some e) pos :: rest) g (x >>= fun d => pure (.rt d)) P :=
  (pss_ret h).weak fun De σ H ⟨B, G, n, φ, ξ, o, s, q1, q2, xw⟩ => ⟨B, G, n, _, ξ, o, Mo.sat_bind s, fun v H' G' d n' o' g' d' p => q2 v H' G' d n' o'.fm d' (Mo.sat_pure p), xw⟩
/-! ### if -/
/-- if c: .. (it returns) -/
theorem fj_ifr {c : Expr} {thn rest : List Stmt} {pos : Pos} {t : m Bool} {x y : m D} (hc : TJ X EX c g t) (h1 : FJ X EX false thn g x) (h2 : FJ X EX fall rest g y) : FJ X EX fall (.If c thn [] pos :: rest) g (t >>= fun k => if k = true then x else y) :=
  (pss_cons (ps_if hc h1 pss_nil) h2).weak fun De σ H ⟨B, G, n, φ, ξ, o, s, q1, q2, xw⟩ => tt_one o s (fun b H1 G1 n1 o1 g1 s1 => by
    cases b with
    | true =>
      rw [if_pos rfl] at s1 ⊢
      exact ⟨B, G1, n1, φ, ξ, o1, s1, q1, (fun z => by cases z), xw⟩
    | false =>
      rw [if_neg Bool.false_ne_true] at s1 ⊢
      exact ⟨B, G1, n1, φ, ξ, o1, s1, q1, q2, xw⟩) xw
theorem bj_ifr {c : Expr} {thn rest : List Stmt} {pos : Pos} {t : m Bool} {x : m D} {y : m (Fl A)} {P : A → List Sl} (hc : TJ X EX c g t) (h1 : FJ X EX false thn g x) (h2 : BJ X EX rest g y P) : BJ X EX (.If c thn [] pos :: rest) g (t >>= fun k => if k = true then (x >>= fun d => pure (.rt d)) else y) P :=
  (pss_cons (ps_if hc h1 pss_nil) h2).weak fun De σ H ⟨B, G, n, φ, ξ, o, s, q1, q2, xw⟩ => tt_one o s (fun b H1 G1 n1 o1 g1 s1 => by
    cases b with
    | true =>
      rw [if_pos rfl] at s1 ⊢
      exact ⟨B, G1, n1, _, ξ, o1, Mo.sat_bind s1, (fun v H' G' d n' f' d' p => q2 v H' G' d n' f' d' (Mo.sat_pure p)), (fun z => by cases z), xw⟩
    | false =>
      rw [if_neg Bool.false_ne_true] at s1 ⊢
      exact ⟨B, G1, n1, φ, ξ, o1, s1, fun c τ K' L' k oc gc pc => q1 c τ K' L' k oc (g1.trans gc) pc, q2, xw⟩) xw
def thenM (f : Fl A) (y : A → m D) : m D := match f with
  | .nx a => y a
  | .rt d => pure d
def thenB (f : Fl A) (y : A → m (Fl A')) : m (Fl A') := match f with
  | .nx a => y a
  | .rt d => pure (.rt d)
theorem pss_any {ι : Type} {ss : List Stmt} {F : ι → TS} (h : ∀ i, PSs X ss (F i)) : PSs X ss (fun De σ H => ∃ i, F i De σ H) := ⟨fun pins s σ H De I ⟨i, q⟩ => (h i).run pins s σ H De I q⟩
/-- if c: .. else: .., both may go on -/
theorem fj_if {c : Expr} {thn els rest : List Stmt} {pos : Pos} {t : m Bool} {x1 x2 : m (Fl A)} {P : A → List Sl} {y : A → m D} (hc : TJ X EX c g t) (h1 : BJ X EX thn g x1 P) (h2 : BJ X EX els g x2 P) (hr : ∀ a, FJ X EX fall rest (P a) (y a)) :
    FJ X EX fall (.If c thn els pos :: rest) g (t >>= fun k => (if k = true then x1 else x2) >>= fun f => thenM f y) :=
  (pss_cons (ps_if hc h1 h2) (pss_any hr)).weak fun De σ H ⟨B, G, n, φ, ξ, o, s, q1, q2, xw⟩ => tt_one o s (fun b H1 G1 n1 o1 g1 s1 => by
    cases b with
    | true =>
      rw [if_pos rfl] at s1 ⊢
      exact ⟨B, G1, n1, _, ξ, o1, Mo.sat_bind s1, (fun a σ' H' G' n' o' g' s' => ⟨a, B, G', n', φ, ξ, o', s', q1, q2, xw⟩), (fun v H' G' d n' f' d' p => q1 v H' G' d n' f' d' (Mo.sat_pure p)), xw⟩
    | false =>
      rw [if_neg Bool.false_ne_true] at s1 ⊢
      exact ⟨B, G1, n1, _, ξ, o1, Mo.sat_bind s1, (fun a σ' H' G' n' o' g' s' => ⟨a, B, G', n', φ, ξ, o', s', q1, q2, xw⟩), (fun v H' G' d n' f' d' p => q1 v H' G' d n' f' d' (Mo.sat_pure p)), xw⟩) xw
theorem bj_if {c : Expr} {thn els rest : List Stmt} {pos : Pos} {t : m Bool} {x1 x2 : m (Fl A)} {P : A → List Sl} {y : A → m (Fl A')} {P' : A' → List Sl} (hc : TJ X EX c g t) (h1 : BJ X EX thn g x1 P) (h2 : BJ X EX els g x2 P) (hr : ∀ a, BJ X EX rest (P a) (y a) P') :
    BJ X EX (.If c thn els pos :: rest) g (t >>= fun k => (if k = true then x1 else x2) >>= fun f => thenB f y) P' :=
  (pss_cons (ps_if hc h1 h2) (pss_any hr)).weak fun De σ H ⟨B, G, n, φ, ξ, o, s, q1, q2, xw⟩ => tt_one o s (fun b H1 G1 n1 o1 g1 s1 => by
    cases b with
    | true =>
      rw [if_pos rfl] at s1 ⊢
      exact ⟨B, G1, n1, _, ξ, o1, Mo.sat_bind s1, (fun a σ' H' G' n' o' g' s' => ⟨a, B, G', n', φ, ξ, o', s', fun c τ K' L' k oc gc pc => q1 c τ K' L' k oc ((g1.trans g').trans gc) pc, q2, xw⟩), (fun v H' G' d n' f' d' p => q2 v H' G' d n' f' d' (Mo.sat_pure p)), xw⟩
    | false =>
      rw [if_neg Bool.false_ne_true] at s1 ⊢
      exact ⟨B, G1, n1, _, ξ, o1, Mo.sat_bind s1, (fun a σ' H' G' n' o' g' s' => ⟨a, B, G', n', φ, ξ, o', s', fun c τ K' L' k oc gc pc => q1 c τ K' L' k oc ((g1.trans g').trans gc) pc, q2, xw⟩), (fun v H' G' d n' f' d' p => q2 v H' G' d n' f' d' (Mo.sat_pure p)), xw⟩) xw
/-! ### for -/
def loopM (f : D → A → m (Fl A)) : List D → A → m (Fl A)
  | [], a => pure (.nx a)
  | d :: r, a => f d a >>= fun z => match z with
    | .nx a' => loopM f r a'
    | .rt v => pure (.rt v)
/-- the target's store at a turn: from the loop's slots P a and the item d to what the body finds -/
def GSem (K : PySem.W.Frag) (gT : TG) (P : A → List Sl) (b : D → A → m (Fl A)) (f : D → A → List Sl → m (Fl A) → Prop) : Prop :=
  ∀ (B : Bs) (σ : L2.St) (H G : Hp) (n : Wd) (d : D) (a : A) (v : V) (φ : Fl A → Wd → Prop) (ξ : Exn → Wd → Prop) (Q : L2.St → Hp → Prop), Ok K B (P a) σ H G n → Da K G v d → Mo.sat (b d a) n φ ξ → (∀ g' y σ', f d a g' y → Ok K B g' σ' H G n → Mo.sat y n φ ξ → Q σ' H) → gT v σ H Q
theorem for_core {tg iter : Expr} {body : List Stmt} {pos : Pos} {xi : m (List D)} {gT : TG} {P : A → List Sl} {a0 : A} {b : D → A → m (Fl A)} {F : D → A → List Sl → m (Fl A) → Prop} (hp : PassesOwn (model X.prog X.w) X.A X.env X.xe) (hc : X.calm = true) (hi : IJ X EX tg iter g xi) (hg : PG X tg gT)
    (hb : ∀ d a g' y, F d a g' y → BJ X EX body g' y P) (hsem : GSem X.K gT P b F) (h0 : Sub g (P a0)) (hs : ∀ x, foldedSetIterable iter X.env x = pure x := by intro _; rfl) :
    PS X (.For tg iter body [] pos) (tbJ X EX g (xi >>= fun ds => loopM b ds a0) P) := by
  have hbody : PSs X body (fun De σ H => ∃ t : { t : D × A × List Sl × m (Fl A) // F t.1 t.2.1 t.2.2.1 t.2.2.2 }, tbJ X EX t.1.2.2.1 t.1.2.2.2 P De σ H) := pss_any fun t => hb _ _ _ _ t.2
  refine (ps_for hp hc hi hg hbody hs).weak fun De σ H ⟨B, G, n, φ, ξ, o, s, q1, q2, xw⟩ => ⟨B, G, n, _, ξ, o, Mo.sat_bind s, fun J H1 G1 ds n1 o1 g1 wk s1 => ?_, xw⟩
  refine ⟨fun i k σ' H' => k = ds.length - i ∧ i ≤ ds.length ∧ ∃ G' n' a, Ok X.K B (P a) σ' H' G' n' ∧ Same G1 G' ∧ Mo.sat (loopM b (ds.drop i) a) n' φ ξ, ⟨ds.length, by omega, Nat.zero_le _, G1, n1, a0, o1.forget h0, Same.refl _, s1⟩, ?_⟩
  rintro i k σ' H' ⟨rfl, hi, G', n', a, o', g', s'⟩
  by_cases hlt : i < ds.length
  · refine .inr ⟨wk.goes i H' hlt (g'.subm o'.fm.sub), fun σ2 H2 => ∃ G2 n2 a2, Ok X.K B (P a2) σ2 H2 G2 n2 ∧ Same G1 G2 ∧ Mo.sat (loopM b (ds.drop (i + 1)) a2) n2 φ ξ, fun σ2 H2 ⟨G2, n2, a2, r⟩ => ⟨ds.length - (i + 1), by omega, rfl, hlt, G2, n2, a2, r⟩, fun v H2 hy => ?_⟩
    obtain ⟨d, G2, ed, gr, dv⟩ := wk.yields i H' G' v H2 hlt g' o'.fm.sub hy
    have e0 : ds.drop i = d :: ds.drop (i + 1) := by
      rw [List.drop_eq_getElem_cons hlt]
      congr 1
      rw [List.getElem?_eq_getElem hlt] at ed
      exact Option.some.inj ed
    rw [e0] at s'
    refine hsem B σ' H2 G2 n' d a v _ ξ _ (o'.gr gr) dv (Mo.sat_bind s') fun g2 y σ2 hF o2 s2 => ?_
    refine ⟨⟨(d, a, g2, y), hF⟩, B, G2, n', _, ξ, o2, s2, fun a3 σ3 H3 G3 n3 o3 g3 s3 => ⟨G3, n3, a3, o3, (g'.trans gr.g).trans g3, s3⟩, fun w H3 G3 e n3 f3 d3 s3 => q2 w H3 G3 e n3 f3 d3 (Mo.sat_pure s3), xw⟩
  · have e : i = ds.length := by omega
    subst e
    rw [List.drop_length] at s'
    exact .inl ⟨wk.stops H' (g'.subm o'.fm.sub), q1 a σ' H' G' n' o' (g1.trans g') (Mo.sat_pure s')⟩
end
end DD
namespace DD
open PySem PySem.Spec PyProof.Rows L2
section
variable {m : Type → Type} [Mo m] {A A' : Type} {X : Cx} {EX : XR} {g : List Sl} {fall : Bool}
/-! ### for, by its target -/
theorem gsem1 {i : Nat} {P : A → List Sl} {b : D → A → m (Fl A)} : GSem X.K (gName i) P b (fun d a g' y => g' = (P a).set i (.val d) ∧ y = b d a) := by
  intro B σ H G n d a v φ ξ Q o dv s q
  exact q _ _ _ ⟨rfl, rfl⟩ (o.setV dv) s
theorem gsem2 {i j : Nat} {P : A → List Sl} {b : D → D → A → m (Fl A)} : GSem X.K (gTup X.K 2 (gCons (gName i) (gCons (gName j) gNil))) P (fun d a => pairM d fun u w => b u w a) (fun d a g' y => ∃ u w, g' = ((P a).set i (.val u)).set j (.val w) ∧ y = b u w a) := by
  intro B σ H G n d a v φ ξ Q o dv s q
  unfold pairM at s
  dsimp only at s
  split at s
  · rename_i u w
    cases dv with
    | tup h da =>
      cases da with
      | cons d1 r =>
        cases r with
        | cons d2 r =>
          cases r
          exact ⟨_, _, rfl, sameT o.fm.sub h, rfl, _, _, rfl, _, _, rfl, rfl, q _ _ _ ⟨u, w, rfl, rfl⟩ ((o.setV d1).setV d2) s⟩
  · obtain ⟨_, e, _⟩ := Mo.sat_lift s
    cases e
theorem fj_of_for {s : Stmt} {rest : List Stmt} {x : m (Fl A)} {P : A → List Sl} {y : A → m D} (h : PS X s (tbJ X EX g x P)) (hr : ∀ a, FJ X EX fall rest (P a) (y a)) : FJ X EX fall (s :: rest) g (x >>= fun f => thenM f y) :=
  (pss_cons h (pss_any hr)).weak fun De σ H ⟨B, G, n, φ, ξ, o, s, q1, q2, xw⟩ =>
    ⟨B, G, n, _, ξ, o, Mo.sat_bind s, fun a σ' H' G' n' o' g' s' => ⟨a, B, G', n', φ, ξ, o', s', q1, q2, xw⟩, fun v H' G' d n' f' d' p => q1 v H' G' d n' f' d' (Mo.sat_pure p), xw⟩
theorem bj_of_for {s : Stmt} {rest : List Stmt} {x : m (Fl A)} {P : A → List Sl} {y : A → m (Fl A')} {P' : A' → List Sl} (h : PS X s (tbJ X EX g x P)) (hr : ∀ a, BJ X EX rest (P a) (y a) P') : BJ X EX (s :: rest) g (x >>= fun f => thenB f y) P' :=
  (pss_cons h (pss_any hr)).weak fun De σ H ⟨B, G, n, φ, ξ, o, s, q1, q2, xw⟩ =>
    ⟨B, G, n, _, ξ, o, Mo.sat_bind s, fun a σ' H' G' n' o' g' s' => ⟨a, B, G', n', φ, ξ, o', s', fun c τ K' L' k oc gc pc => q1 c τ K' L' k oc (g'.trans gc) pc, q2, xw⟩, fun v H' G' d n' f' d' p => q2 v H' G' d n' f' d' (Mo.sat_pure p), xw⟩
theorem for1 (i : Nat) {tg iter : Expr} {body : List Stmt} {pos : Pos} {xi : m (List D)} {P : A → List Sl} {a0 : A} {b : D → A → m (Fl A)} (hp : PassesOwn (model X.prog X.w) X.A X.env X.xe) (hi : IJ X EX tg iter g xi) (hg : PG X tg (gName i))
    (hb : ∀ d a, BJ X EX body ((P a).set i (.val d)) (b d a) P) (h0 : Sub g (P a0)) (hc : X.calm = true := by rfl) (hs : ∀ x, foldedSetIterable iter X.env x = pure x := by intro _; rfl) :
    PS X (.For tg iter body [] pos) (tbJ X EX g (xi >>= fun ds => loopM b ds a0) P) :=
  for_core hp hc hi hg (fun d a g' y ⟨e1, e2⟩ => by subst e1 e2; exact hb d a) gsem1 h0 hs
theorem for2 (i j : Nat) {tg iter : Expr} {body : List Stmt} {pos : Pos} {xi : m (List D)} {P : A → List Sl} {a0 : A} {b : D → D → A → m (Fl A)} (hp : PassesOwn (model X.prog X.w) X.A X.env X.xe) (hi : IJ X EX tg iter g xi) (hg : PG X tg (gTup X.K 2 (gCons (gName i) (gCons (gName j) gNil))))
    (hb : ∀ u w a, BJ X EX body (((P a).set i (.val u)).set j (.val w)) (b u w a) P) (h0 : Sub g (P a0)) (hc : X.calm = true := by rfl) (hs : ∀ x, foldedSetIterable iter X.env x = pure x := by intro _; rfl) :
    PS X (.For tg iter body [] pos) (tbJ X EX g (xi >>= fun ds => loopM (fun d a => pairM d fun u w => b u w a) ds a0) P) :=
  for_core hp hc hi hg (fun d a g' y ⟨u, w, e1, e2⟩ => by subst e1 e2; exact hb u w a) gsem2 h0 hs
/-! ### plain statements -/
theorem sj_set (i : Nat) {y : Str} {py pos : Pos} {e : Expr} {x : m D} (hN : X.N.Nodup) (h : EJ X EX e g x) (hi : X.N[i]? = some y := by rfl) (hx : Loc X.env.scope y := by first | exact Or.inl rfl | exact Or.inr rfl) (hs : swapsWith e (some (.Name y py)) pos.line X.env = pure false := by kernel_rfl)
    (hf : X.fn y = true ∨ X.env.scope.names.lookup y = some .local := by first | exact .inl rfl | exact .inr rfl) : SJ X EX (.Assign [.Name y py] e pos) g x (fun d => g.set i (.val d)) :=
  (ps_set hN hi hx h hs hf).weak fun De σ H ⟨B, G, n, φ, ξ, o, s, q, xw⟩ => ⟨B, G, n, φ, ξ, o, s, fun v H' G' d n' o' g' dv p => q d _ H' G' n' (o'.setV dv) g' p, xw⟩
theorem sj_expr {e : Expr} {pos : Pos} {x : m D} (h : EJ X EX e g x) (hs : swapsWith e none pos.line X.env = pure false := by kernel_rfl) : SJ X EX (.Expr e pos) g x (fun _ => g) :=
  (ps_expr h hs).weak fun De σ H ⟨B, G, n, φ, ξ, o, s, q, xw⟩ => ⟨B, G, n, φ, ξ, o, s, fun v H' G' d n' o' g' dv p => q d _ H' G' n' o' g' p, xw⟩
/-- a slot is given a list of its own -/
theorem Ok.setO {K : PySem.W.Frag} {B : Bs} {σ : L2.St} {H G : Hp} {n : Wd} {p : Addr} {xs : List V} {ds : List D} {i : Nat} (o : Ok K B g σ H G n) (hb : B.H p = none) (hg : G p = none) (hh : H p = some (.lst xs))
    (hf : ∀ (i : Nat) (es : List D) (f : Addr), g[i]? = some (Sl.own es) → σ[i]? = some (some (V.ref f)) → f ≠ p) (da : DaAll K G xs ds) : Ok K B (g.set i (.own ds)) (σ.set i (some (.ref p))) H G n where
  fm := o.fm
  len := by rw [List.length_set, List.length_set, o.len]
  val := fun j e he => by
    by_cases hj : i = j
    · subst hj
      by_cases hl : i < g.length
      · rw [List.getElem?_set_self hl] at he; cases he
      · rw [List.getElem?_eq_none (by rw [List.length_set]; omega)] at he; cases he
    · rw [List.getElem?_set_ne hj] at he ⊢
      exact o.val j e he
  own := by
    obtain ⟨f, h1, h2⟩ := o.own
    have out : ∀ (j : Nat) (es : List D), i ≠ j → (g.set i (.own ds))[j]? = some (Sl.own es) → g[j]? = some (Sl.own es) := fun j es hj e => by
      rw [List.getElem?_set_ne hj] at e; exact e
    refine ⟨fun j => if j = i then p else f j, fun j k es es' a b e => ?_, fun j es e => ?_⟩
    · dsimp only at e
      by_cases hj : j = i <;> by_cases hk : k = i
      · rw [hj, hk]
      · rw [if_pos hj, if_neg hk] at e
        have b' := out k es' (Ne.symm hk) b
        obtain ⟨q, _⟩ := h2 k es' b'
        exact absurd e.symm (hf k es' _ b' q)
      · rw [if_neg hj, if_pos hk] at e
        have a' := out j es (Ne.symm hj) a
        obtain ⟨q, _⟩ := h2 j es a'
        exact absurd e (hf j es _ a' q)
      · rw [if_neg hj, if_neg hk] at e
        exact h1 j k es es' (out j es (Ne.symm hj) a) (out k es' (Ne.symm hk) b) e
    · dsimp only
      by_cases hj : j = i
      · subst hj
        by_cases hl : j < g.length
        · rw [List.getElem?_set_self hl] at e
          cases e
          rw [if_pos rfl, List.getElem?_set_self (by rw [← o.len]; exact hl)]
          exact ⟨rfl, hg, hb, xs, hh, da⟩
        · rw [List.getElem?_eq_none (by rw [List.length_set]; omega)] at e; cases e
      · rw [if_neg hj, List.getElem?_set_ne (Ne.symm hj)]
        exact h2 j es (out j es (Ne.symm hj) e)
  dck := fun j e => by
    by_cases hj : i = j
    · subst hj
      by_cases hl : i < g.length
      · rw [List.getElem?_set_self hl] at e; cases e
      · rw [List.getElem?_eq_none (by rw [List.length_set]; omega)] at e; cases e
    · rw [List.getElem?_set_ne hj] at e ⊢
      exact o.dck j e
  adr := fun j b od fs e => by
    by_cases hj : i = j
    · subst hj
      by_cases hl : i < g.length
      · rw [List.getElem?_set_self hl] at e; cases e
      · rw [List.getElem?_eq_none (by rw [List.length_set]; omega)] at e; cases e
    · rw [List.getElem?_set_ne hj] at e ⊢
      exact o.adr j b od fs e
  fnc := fun j b fs e => by
    by_cases hj : i = j
    · subst hj
      by_cases hl : i < g.length
      · rw [List.getElem?_set_self hl] at e; cases e
      · rw [List.getElem?_eq_none (by rw [List.length_set]; omega)] at e; cases e
    · rw [List.getElem?_set_ne hj] at e ⊢
      exact o.fnc j b fs e
theorem sj_setO (i : Nat) {y : Str} {py pos : Pos} {e : Expr} {x : m (List D)} (hN : X.N.Nodup) (h : LJ X EX e g x) (hi : X.N[i]? = some y := by rfl) (hx : Loc X.env.scope y := by first | exact Or.inl rfl | exact Or.inr rfl) (hs : swapsWith e (some (.Name y py)) pos.line X.env = pure false := by kernel_rfl)
    (hf : X.fn y = true ∨ X.env.scope.names.lookup y = some .local := by first | exact .inl rfl | exact .inr rfl) : SJ X EX (.Assign [.Name y py] e pos) g x (fun ds => g.set i (.own ds)) :=
  (ps_set hN hi hx h hs hf).weak fun De σ H ⟨B, G, n, φ, ξ, o, s, q, xw⟩ => ⟨B, G, n, φ, ξ, o, s, fun p xs H' G' ds n' o' g' hb hg hh hf da pd => q ds _ H' G' n' (o'.setO hb hg hh hf da) g' pd, xw⟩
/-- y = [..] on one line, y a local -/
theorem sj_lcV (i : Nat) {y : Str} {py pos : Pos} {e : Expr} {x : m (List D)} (hN : X.N.Nodup) (h : LcP X EX e g x) (hw : swapsWith e (some (.Name y py)) pos.line X.env = pure true) (hi : X.N[i]? = some y := by rfl) (hl : X.env.scope.names.lookup y = some .local := by rfl) :
    SJ X EX (.Assign [.Name y py] e pos) g x (fun ds => g.set i (.val (.list ds))) :=
  (h.stmt hN hi hl hw).weak fun De σ H ⟨B, G, n, φ, ξ, o, s, q, xw⟩ => ⟨B, G, n, φ, ξ, o, s, fun p xs H' G' ds n' o' g' hb hg hh hf da pd => by
    obtain ⟨o2, g2⟩ := o'.freeze hb hg hh hf
    exact q ds _ H' _ n' (o2.setV (.lst upd_same (da.mono g2))) (g'.trans g2) pd, xw⟩
theorem sj_lcO (i : Nat) {y : Str} {py pos : Pos} {e : Expr} {x : m (List D)} (hN : X.N.Nodup) (h : LcP X EX e g x) (hw : swapsWith e (some (.Name y py)) pos.line X.env = pure true) (hi : X.N[i]? = some y := by rfl) (hl : X.env.scope.names.lookup y = some .local := by rfl) :
    SJ X EX (.Assign [.Name y py] e pos) g x (fun ds => g.set i (.own ds)) :=
  (h.stmt hN hi hl hw).weak fun De σ H ⟨B, G, n, φ, ξ, o, s, q, xw⟩ => ⟨B, G, n, φ, ξ, o, s, fun p xs H' G' ds n' o' g' hb hg hh hf da pd => q ds _ H' G' n' (o'.setO hb hg hh hf da) g' pd, xw⟩
/-- the list in slot i is changed -/
theorem Ok.write {K : PySem.W.Frag} {B : Bs} {σ : L2.St} {H G : Hp} {n : Wd} {a : Addr} {xs : List V} {ds es : List D} {i : Nat} (o : Ok K B g σ H G n) (hi : g[i]? = some (Sl.own es)) (ha : σ[i]? = some (some (V.ref a))) (da : DaAll K G xs ds) : Ok K B (g.set i (.own ds)) σ (upd H a (.lst xs)) G n := by
  obtain ⟨f, h1, h2⟩ := id o.own
  obtain ⟨e1, e2, e3, ys, e4, e5⟩ := h2 i es hi
  rw [ha] at e1
  obtain rfl : a = f i := by cases e1; rfl
  have hl : i < g.length := (List.getElem?_eq_some_iff.mp hi).1
  have sd : Side B (g.set i .any) σ G (f i) := by
    refine ⟨e3, ?_, e2, fun j es' q z y => ?_⟩
    · cases e : B.G (f i) with
      | none => rfl
      | some z => rw [o.fm.old _ _ e] at e2; cases e2
    · by_cases hj : i = j
      · subst hj
        rw [List.getElem?_set_self hl] at z; cases z
      · rw [List.getElem?_set_ne hj] at z
        rintro rfl
        obtain ⟨q1, _⟩ := h2 j es' z
        rw [q1] at y
        exact hj (h1 i j es es' hi z (V.ref.inj (Option.some.inj (Option.some.inj y))).symm)
  have o1 : Ok K B (g.set i .any) σ H G n := o.sub (by simp) fun j s e => by
    by_cases hj : i = j
    · subst hj
      rw [List.getElem?_set_self hl] at e
      cases e
      exact .inl rfl
    · rw [List.getElem?_set_ne hj] at e
      exact .inr e
  have o2 := (o1.poke (u := .lst xs) sd).setO (i := i) (p := f i) sd.b sd.no upd_same sd.f da
  rw [List.set_set] at o2
  have : σ.set i (some (V.ref (f i))) = σ := by
    apply List.ext_getElem?
    intro j
    by_cases hj : i = j
    · subst hj
      rw [List.getElem?_set_self (by rw [← o.len]; exact hl), ha]
    · rw [List.getElem?_set_ne hj]
  rw [this] at o2
  exact o2
end
end DD
namespace DD
open PySem PySem.Spec PyProof.Rows L2
section
variable {m : Type → Type} [Mo m] {A A' : Type} {X : Cx} {EX : XR} {g : List Sl} {fall : Bool}
theorem own_at {K : PySem.W.Frag} {B : Bs} {σ : L2.St} {H G : Hp} {n : Wd} {i : Nat} {ds : List D} (o : Ok K B g σ H G n) (hi : g[i]? = some (Sl.own ds)) : ∃ a xs, σ[i]? = some (some (V.ref a)) ∧ H a = some (.lst xs) ∧ DaAll K G xs ds := by
  obtain ⟨f, _, h2⟩ := o.own
  obtain ⟨e1, _, _, xs, e4, e5⟩ := h2 i ds hi
  exact ⟨f i, xs, e1, e4, e5⟩
def fits (k : Nat) : Option Unit := if k < 1000000 then some () else none
theorem fits_lt {k : Nat} {u : Unit} (h : fits k = some u) : k < sizeLine := by
  unfold fits at h
  split at h
  · rename_i hl; exact Nat.lt_trans hl (by decide)
  · cases h
/-- x.append(e), x a list of one's own -/
theorem sj_append (i : Nat) {ds : List D} {y : Str} {py apos cpos pos : Pos} {e : Expr} {x : m D} (h : EJ X EX e g x) (hg : g[i]? = some (Sl.own ds) := by rfl) (hN : X.N[i]? = some y := by rfl) (hv : Vis X.env.scope y := by first | exact Or.inl rfl | exact Or.inr (Or.inl rfl) | exact Or.inr (Or.inr rfl))
    (hd : (y == ("__debug__" : Str)) = false := by decide) (hcd : (y == ("__classdict__" : Str)) = false := by decide)
    (hbase : attributeBase (.Name y py) "append" X.env (eval (.Name y py) X.env) = eval (.Name y py) X.env := by rfl)
    (hfew : ((backTo cpos (starEach [e] X.env)).all (fun x => !x.1) && (backToKw cpos (keywordEach [] X.env)).all (fun x => x.1.isSome) && decide ([e].length + ([] : List Keyword).length + (if ([] : List Keyword).isEmpty then 0 else 1) < 30)) = true := by rfl)
    (hline : (apos.endLine == cpos.line) = true := by rfl) (hs : starEach [e] X.env = (false, eval e X.env) :: starEach [] X.env := by rfl) (hpl : (backTo cpos (starEach [] X.env)).any (·.1) = false := by rfl)
    (hw : swapsWith (.Call (.Attribute (.Name y py) "append" apos) [e] [] cpos) none pos.line X.env = pure false := by rfl) :
    SJ X EX (.Expr (.Call (.Attribute (.Name y py) "append" apos) [e] [] cpos) pos) g (x >>= fun d => Mo.lift (fits ds.length) >>= fun _ => pure d) (fun d => g.set i (.own (ds ++ [d]))) :=
  (ps_expr (pe_bm PySem.F.plainAttrs_list PySem.F.slot_list_append PySem.F.type_list_append mt_append (pe_var hN hv hd hcd) (pa_cons h pa_nil hs) hbase hfew hline hs hpl) hw).weak fun De σ H ⟨B, G, n, φ, ξ, o, s, q, xw⟩ => by
    obtain ⟨a, xs, e1, e2, e3⟩ := own_at o hg
    refine ⟨.ref a, e1, .inl ⟨rfl, xs, .inl (.inl e2)⟩, te_one o s (fun v H1 G1 d n1 o1 g1 d1 s1 => ?_) xw⟩
    obtain ⟨u, eu, s2⟩ := Mo.sat_lift (Mo.sat_bind s1)
    obtain ⟨a', xs', e1', e2', e3'⟩ := own_at o1 hg
    rw [e1] at e1'
    cases e1'
    refine ⟨a, xs', v, rfl, rfl, e2', by rw [e3'.length]; exact fits_lt eu, q d _ _ G1 n1 (o1.write hg e1 (e3'.append (.one d1))) g1 (Mo.sat_pure s2)⟩
def putD (ds : List D) (k : D) (d : D) : Option (List D) := match k with
  | .int j => (ixN ds.length j).map fun i => ds.set i d
  | _ => none
/-- x[k] = e, x a list of one's own -/
theorem sj_put (i : Nat) {ds : List D} {y : Str} {py p2 pos : Pos} {k e : Expr} {x z : m D} (h : EJ X EX e g x) (hk : EJ X EX k g z) (hg : g[i]? = some (Sl.own ds) := by rfl) (hN : X.N[i]? = some y := by rfl) (hv : Vis X.env.scope y := by first | exact Or.inl rfl | exact Or.inr (Or.inl rfl) | exact Or.inr (Or.inr rfl))
    (hd : (y == ("__debug__" : Str)) = false := by decide) (hcd : (y == ("__classdict__" : Str)) = false := by decide)
    (ha : ∀ v, assign (.Subscript (.Name y py) k p2) X.env v = (do
      let ov ← holding [v] (eval (.Name y py) X.env)
      let iv ← holding [v, ov] (eval k X.env)
      standAt p2
      holding [v, ov, iv] (setItem ov iv v)
      release [v, ov, iv] []) := by intro _; rfl)
    (hs : swapsWithSole [.Subscript (.Name y py) k p2] e pos.line X.env = pure false := by kernel_rfl) (hw : swappedStores [.Subscript (.Name y py) k p2] e X.env = pure none := by kernel_rfl)
    (h1 : (assignEach [.Subscript (.Name y py) k p2] X.env).map (·.2) = [assign (.Subscript (.Name y py) k p2) X.env] := by rfl) :
    SJ X EX (.Assign [.Subscript (.Name y py) k p2] e pos) g (x >>= fun d => z >>= fun j => Mo.lift (putD ds j d)) (fun es => g.set i (.own es)) :=
  (ps_asg h (pg_sub (pe_var hN hv hd hcd) hk set_list ha) hs hw h1).weak fun De σ H ⟨B, G, n, φ, ξ, o, s, q, xw⟩ => te_one o s (fun v H1 G1 d n1 o1 g1 d1 s1 => by
    obtain ⟨a, xs, e1, e2, e3⟩ := own_at o1 hg
    refine ⟨.ref a, e1, te_one o1 s1 (fun w H2 G2 j n2 o2 g2 d2 s2 => ?_) xw⟩
    obtain ⟨es, ee, pe⟩ := Mo.sat_lift s2
    obtain ⟨a', xs', e1', e2', e3'⟩ := own_at o2 hg
    rw [e1] at e1'
    cases e1'
    unfold putD at ee
    cases j with
    | int j =>
      obtain ⟨t, et, rfl⟩ := Option.map_eq_some_iff.mp ee
      cases d2
      exact ⟨a, xs', j, t, rfl, rfl, e2', by rw [e3'.length]; exact et, q _ _ _ G2 n2 (o2.write hg e1 (e3'.set (d1.mono g2) t)) (g1.trans g2) pe⟩
    | _ => cases ee) xw
/-- a, b = e1, e2 -/
theorem sj_par (i j : Nat) {y z : Str} {a b : Expr} {px py pt pos : Pos} {kt k2 pt2} {x1 x2 : m D} (hN : X.N.Nodup) (ha : EJ X EX a g x1) (hb : EJ X EX b g x2) (hij : i ≠ j := by decide) (hi : X.N[i]? = some y := by rfl) (hj : X.N[j]? = some z := by rfl) (hc : X.calm = true := by rfl)
    (hx : X.env.scope.names.lookup y = some .local := by rfl) (hy : X.env.scope.names.lookup z = some .local := by rfl)
    (hw : swappedStores [.Tuple [.Name y px, .Name z py] kt pt] (.Tuple [a, b] k2 pt2) X.env = pure (some [y, z]) := by kernel_rfl) (hs : swapsWithSole [.Tuple [.Name y px, .Name z py] kt pt] (.Tuple [a, b] k2 pt2) pos.line X.env = pure false := by kernel_rfl)
    (hs1 : starEach [a, b] X.env = (false, eval a X.env) :: starEach [b] X.env := by rfl) (hs2 : starEach [b] X.env = (false, eval b X.env) :: starEach [] X.env := by rfl) :
    SJ X EX (.Assign [.Tuple [.Name y px, .Name z py] kt pt] (.Tuple [a, b] k2 pt2) pos) g (x1 >>= fun d => x2 >>= fun e => pure (d, e)) (fun de => (g.set i (.val de.1)).set j (.val de.2)) :=
  (ps_par hc hN hi hj hij hx hy (pa_cons ha (pa_cons hb pa_nil hs2) hs1) hw hs).weak fun De σ H ⟨B, G, n, φ, ξ, o, s, q, xw⟩ => te_one o s (fun v H1 G1 d n1 o1 g1 d1 s1 => te_one o1 s1 (fun w H2 G2 e n2 o2 g2 d2 s2 =>
    ⟨v, w, rfl, q (d, e) _ H2 G2 n2 ((o2.setV (d1.mono g2)).setV d2) (g1.trans g2) (Mo.sat_pure s2)⟩) xw) xw
/-- .. b a list of its own -/
theorem sj_parO (i j : Nat) {y z : Str} {a b : Expr} {px py pt pos : Pos} {kt k2 pt2} {x1 : m D} {x2 : m (List D)} (hN : X.N.Nodup) (ha : EJ X EX a g x1) (hb : LJ X EX b g x2) (hij : i ≠ j := by decide) (hi : X.N[i]? = some y := by rfl) (hj : X.N[j]? = some z := by rfl) (hc : X.calm = true := by rfl)
    (hx : X.env.scope.names.lookup y = some .local := by rfl) (hy : X.env.scope.names.lookup z = some .local := by rfl) (hno : noOwn g [i] = true := by rfl)
    (hw : swappedStores [.Tuple [.Name y px, .Name z py] kt pt] (.Tuple [a, b] k2 pt2) X.env = pure (some [y, z]) := by kernel_rfl) (hs : swapsWithSole [.Tuple [.Name y px, .Name z py] kt pt] (.Tuple [a, b] k2 pt2) pos.line X.env = pure false := by kernel_rfl)
    (hs1 : starEach [a, b] X.env = (false, eval a X.env) :: starEach [b] X.env := by rfl) (hs2 : starEach [b] X.env = (false, eval b X.env) :: starEach [] X.env := by rfl) :
    SJ X EX (.Assign [.Tuple [.Name y px, .Name z py] kt pt] (.Tuple [a, b] k2 pt2) pos) g (x1 >>= fun d => x2 >>= fun e => pure (d, e)) (fun de => (g.set i (.val de.1)).set j (.own de.2)) :=
  (ps_par hc hN hi hj hij hx hy (pa_cons ha (pa_cons hb pa_nil hs2) hs1) hw hs).weak fun De σ H ⟨B, G, n, φ, ξ, o, s, q, xw⟩ => te_one o s (fun v H1 G1 d n1 o1 g1 d1 s1 => ⟨B, G1, n1, _, ξ, o1, Mo.sat_bind s1, fun p xs H2 G2 es n2 o2 g2 hb' hg' hh hf da s2 =>
    ⟨v, .ref p, rfl, q (d, es) _ H2 G2 n2 ((o2.setV (d1.mono g2)).setO hb' hg' hh (fun k es' f e1 e2 => by
      by_cases hk : i = k
      · subst hk
        by_cases hl : i < g.length
        · rw [List.getElem?_set_self hl] at e1; cases e1
        · rw [List.getElem?_eq_none (by rw [List.length_set]; omega)] at e1; cases e1
      · rw [List.getElem?_set_ne hk] at e1 e2
        exact hf k es' f e1 e2) da) (g1.trans g2) (Mo.sat_pure s2)⟩, xw⟩) xw
/-! ### a list of one's own, read -/
theorem Ok.freezeS {K : PySem.W.Frag} {B : Bs} {σ : L2.St} {H G : Hp} {n : Wd} {i : Nat} {ds : List D} (o : Ok K B g σ H G n) (hi : g[i]? = some (Sl.own ds)) : ∃ G', Ok K B (g.set i (.val (.list ds))) σ H G' n ∧ Same G G' := by
  obtain ⟨f, h1, h2⟩ := id o.own
  obtain ⟨e1, e2, e3, ys, e4, e5⟩ := h2 i ds hi
  have hl : i < g.length := (List.getElem?_eq_some_iff.mp hi).1
  have o1 : Ok K B (g.set i .any) σ H G n := o.sub (by simp) fun j s e => by
    by_cases hj : i = j
    · subst hj
      rw [List.getElem?_set_self hl] at e
      cases e
      exact .inl rfl
    · rw [List.getElem?_set_ne hj] at e
      exact .inr e
  obtain ⟨o2, g2⟩ := o1.freeze e3 e2 e4 fun j es' q z y => by
    by_cases hj : i = j
    · subst hj
      rw [List.getElem?_set_self hl] at z; cases z
    · rw [List.getElem?_set_ne hj] at z
      rintro rfl
      obtain ⟨q1, _⟩ := h2 j es' z
      rw [q1] at y
      exact hj (h1 i j ds es' hi z (V.ref.inj (Option.some.inj (Option.some.inj y))).symm)
  refine ⟨_, ?_, g2⟩
  have o3 := o2.setV (i := i) (v := .ref (f i)) (d := .list ds) (.lst upd_same (e5.mono g2))
  rw [List.set_set] at o3
  have : σ.set i (some (V.ref (f i))) = σ := by
    apply List.ext_getElem?
    intro j
    by_cases hj : i = j
    · subst hj
      rw [List.getElem?_set_self (by rw [← o.len]; exact hl), e1]
    · rw [List.getElem?_set_ne hj]
  rw [this] at o3
  exact o3
/-- from here on the list in slot i is data -/
theorem fj_fr (i : Nat) {ds : List D} {ss : List Stmt} {x : m D} (h : FJ X EX fall ss (g.set i (.val (.list ds))) x) (hi : g[i]? = some (Sl.own ds) := by rfl) : FJ X EX fall ss g x :=
  PSs.weak h fun De σ H ⟨B, G, n, φ, ξ, o, s, q1, q2, xw⟩ => by
    obtain ⟨G', o', g'⟩ := o.freezeS hi
    exact ⟨B, G', n, φ, ξ, o', s, q1, q2, xw⟩
theorem bj_fr (i : Nat) {ds : List D} {ss : List Stmt} {x : m (Fl A)} {P : A → List Sl} (h : BJ X EX ss (g.set i (.val (.list ds))) x P) (hi : g[i]? = some (Sl.own ds) := by rfl) : BJ X EX ss g x P :=
  PSs.weak h fun De σ H ⟨B, G, n, φ, ξ, o, s, q1, q2, xw⟩ => by
    obtain ⟨G', o', g'⟩ := o.freezeS hi
    exact ⟨B, G', n, φ, ξ, o', s, fun c τ K' L' k oc gc pc => q1 c τ K' L' k oc (g'.trans gc) pc, q2, xw⟩
end
end DD
namespace DD
open PySem PySem.Spec PyProof.Rows L2
/-! ### defs: as FnOk, where no repr runs around the call -/
structure FnG (P : Program) (w : World) (K : PySem.W.Frag) (mg : Str → Option Value) (base : Heap) (k : Nat) (f : Addr) (fd : FuncData) (ps : List Str) (sp : Sp) : Prop where
  len : ∀ vs H Q E, sp vs H Q E → vs.length = ps.length
  run : ∀ (A : Around) (outer : List Env) (s : Shared) (H : Hp) (args : Args) (us : List Value) (vs : List V) (Q : VK) (E : XK), Room k A → A.guards = some [] → Env0 P w K mg base A outer s H → BindsTo s fd args (ps.zip us) → Vals vs us → sp vs H Q E →
    codeAny (model P w) A (.call (.ref f) args) (CR CX0 outer P w H s Q E) s
theorem FnG.mono {P : Program} {w : World} {K : PySem.W.Frag} {mg : Str → Option Value} {base : Heap} {j k : Nat} {f : Addr} {fd : FuncData} {ps : List Str} {sp : Sp} (F : FnG P w K mg base j f fd ps sp) (h : j ≤ k) : FnG P w K mg base k f fd ps sp :=
  ⟨F.len, fun A outer s H args us vs Q E hr => F.run A outer s H args us vs Q E (hr.mono h)⟩
theorem fng_of {P : Program} {w : World} {K : PySem.W.Frag} {mg : Str → Option Value} {base : Heap} {k : Nat} {x qual : Str} {st : Stmt} {f : Addr} {fd : FuncData} {N ps : List Str} {sp : Sp} (F : Fun K x qual st f fd) (S : FnScope N ps (defScope st)) (len : ∀ vs H Q E, sp vs H Q E → vs.length = ps.length)
    (hb : ∀ (cdv : Value) (A : Around) (outer : List Env) (s : Shared) (H : Hp) (vs : List V) (Q : VK) (E : XK), Room k (A.deeper (envOfC qual (defScope st) s.heap.objs.size f cdv)) → A.guards = some [] → sp vs H Q E →
      ∃ t, PSs (cxOf CX0 P w K mg base N qual (defScope st) f cdv A outer s H E).nox (defBody st) t ∧ t { nx := fun _ H' => Q .non H', rt := Q } (start N vs) H) : FnG P w K mg base (k + 1) f fd ps sp := by
  obtain ⟨oc, od, kV, doc, pm, an, cdv, ct, osl, rfl, lk, hcd⟩ := F.ex
  refine ⟨len, fun A outer s H args us vs Q E room gu e0 bi rv hsp => ?_⟩
  have KH : K.In s.heap := e0.mod.kin.keeps fun b o z => (e0.bs b o z).1
  have kinds : ∀ y ∈ ps.zip us, (defScope st).names.lookup y.1 = some .local ∨ ((defScope st).names.lookup y.1 = some .cell ∧ ((cellsFrom (s.heap.objs.size + 1) (defScope st).names []).lookup y.1).isSome = true) := by
    rintro ⟨nm, _⟩ hy
    exact (S.par nm (List.of_mem_zip hy).1).imp id fun z => ⟨z, PySem.W.cellsFrom_some _ _ _ (.inl z)⟩
  refine codeAny_call_function room.depth (KH _ _ lk) rfl S.co S.gen rfl (PySem.W.codeRec_of KH hcd) (bi _ _ _ _ (wpAny_newFunctionEnv_cells S.kind kinds fun env he s1 nw => ?_))
  subst he
  refine ⟨(e0.mod.nolimit.keeps fun b o z => (e0.bs b o z).1).keeps nw.toInCall.keep, codeAny_func ?_⟩
  obtain ⟨t, ht, hq⟩ := hb cdv A outer s H vs Q E (room.deeper _) gu hsp
  refine wpAny_mono (ht.nox.run [] s1 (start N vs) H _ (inv_start S room.hd e0 (len _ _ _ _ hsp) rv nw) hq) (fun fl s' h => ?_) fun _ _ z => z
  cases fl with
  | ret u =>
    obtain ⟨v, _, H', J, r', q⟩ := h
    exact ⟨v, H', J.os, J.bare, J.base, J.hok, r', q⟩
  | next =>
    obtain ⟨_, H', J, q⟩ := h
    exact ⟨.non, H', J.os, J.bare, J.base, J.hok, rfl, q⟩
  | brk => obtain ⟨_, _, _, q⟩ := h; exact q.elim
  | cont => obtain ⟨_, _, _, q⟩ := h; exact q.elim
/-! ### promises by mirrors -/
section
variable {m : Type → Type} [Mo m]
def spJ (K : PySem.W.Frag) (F : List Sl → m D) : Sp := fun vs H Q _ => ∃ G n dk as φ, ArgsOk K ⟨H, G, dk, G⟩ G vs as ∧ Fm K ⟨H, G, dk, G⟩ H G n ∧ Mo.sat (F as) n φ (fun _ _ => False) ∧
  ∀ v H' G' d n', Fm K ⟨H, G, dk, G⟩ H' G' n' → Da K G' v d → φ d n' → Q v H'
theorem ArgsOk.length {K : PySem.W.Frag} {B : Bs} {G : Hp} : ∀ {vs : List V} {as : List Sl}, ArgsOk K B G vs as → vs.length = as.length
  | _, _, .nil => rfl
  | _, _, .cons _ r => by simp [ArgsOk.length r]
theorem ArgsOk.get {K : PySem.W.Frag} {B : Bs} {G : Hp} : ∀ {vs : List V} {as : List Sl}, ArgsOk K B G vs as → ∀ (i : Nat) (a : Sl), as[i]? = some a → ∃ v, vs[i]? = some v ∧ ArgOk K B G v a
  | _, _, .nil, _, _, e => by simp at e
  | _, _, .cons h _, 0, a, e => by simp at e; subst e; exact ⟨_, rfl, h⟩
  | _, _, .cons _ r, i + 1, a, e => by
    obtain ⟨v, h1, h2⟩ := r.get i a (by simpa using e)
    exact ⟨v, by simpa using h1, h2⟩
theorem ok_start {K : PySem.W.Frag} {B : Bs} {H G : Hp} {n : Wd} {N : List Str} {vs : List V} {as : List Sl} (a : ArgsOk K B G vs as) (f : Fm K B H G n) : Ok K B (as ++ List.replicate (N.length - as.length) .any) (start N vs) H G n := by
  have hl := a.length
  have pick : ∀ (i : Nat) (s : Sl), (as ++ List.replicate (N.length - as.length) Sl.any)[i]? = some s → s ≠ .any → ∃ v, (start N vs)[i]? = some (some v) ∧ ArgOk K B G v s := fun i s e ne => by
    by_cases hi : i < as.length
    · rw [List.getElem?_append_left hi] at e
      obtain ⟨v, h1, h2⟩ := a.get i s e
      refine ⟨v, ?_, h2⟩
      unfold L2.start
      rw [List.getElem?_append_left (by rw [List.length_map]; omega), List.getElem?_map, h1]
      rfl
    · rw [List.getElem?_append_right (by omega), List.getElem?_replicate] at e
      split at e
      · cases e; exact absurd rfl ne
      · cases e
  refine ⟨f, ?_, fun i d e => ?_, ⟨fun _ => 0, fun i j ds es e => ?_, fun i ds e => ?_⟩, fun i e => ?_, fun i a od fs e => ?_, fun i f F e => ?_⟩
  · unfold L2.start
    simp only [List.length_append, List.length_map, List.length_replicate]
    omega
  · obtain ⟨v, h1, h2⟩ := pick i _ e (by simp)
    exact ⟨v, h1, h2⟩
  · obtain ⟨v, _, h2⟩ := pick i _ e (by simp)
    exact h2.elim
  · obtain ⟨v, _, h2⟩ := pick i _ e (by simp)
    exact h2.elim
  · obtain ⟨v, h1, a, b, h2, rfl⟩ := pick i _ e (by simp)
    exact ⟨a, b, h2, h1⟩
  · obtain ⟨v, _, h2⟩ := pick i _ e (by simp)
    exact h2.elim
  · obtain ⟨v, _, h2⟩ := pick i _ e (by simp)
    exact h2.elim
/-- a def keeps its mirror's promise, by its body -/
theorem fn_j {P : Program} {w : World} {K : PySem.W.Frag} {mg : Str → Option Value} {base : Heap} {k : Nat} {x qual : Str} {st : Stmt} {f : Addr} {fd : FuncData} {N ps : List Str} {F : List Sl → m D} (Fu : Fun K x qual st f fd) (S : FnScope N ps (defScope st))
    (hb : ∀ (as : List Sl) (n : Wd) (φ : D → Wd → Prop), Mo.sat (F as) n φ (fun _ _ => False) → as.length = ps.length ∧ ∀ (cdv : Value) (A : Around) (outer : List Env) (s : Shared) (H : Hp) (E : XK), Room k (A.deeper (envOfC qual (defScope st) s.heap.objs.size f cdv)) → A.guards = some [] →
      FJ (cxOf CX0 P w K mg base N qual (defScope st) f cdv A outer s H E).nox X0 true (defBody st) (as ++ List.replicate (N.length - as.length) .any) (F as)) : FnG P w K mg base (k + 1) f fd ps (spJ K F) := by
  refine fng_of Fu S (fun vs H Q E ⟨G, n, dk, as, φ, a, _, s, _⟩ => a.length.trans (hb as n φ s).1) fun cdv A outer s H vs Q E hr gu ⟨G, n, dk, as, φ, a, fm, st, q⟩ => ⟨_, (hb as n φ st).2 cdv A outer s H E hr gu, ⟨H, G, dk, G⟩, G, n, φ, fun _ _ => False, ok_start a fm, st, q, fun _ σ' H' G' n' f' p => q .non H' G' .none n' f' .non p, fun _ _ _ _ _ _ _ z => z.elim⟩
/-! ### calls of such defs -/
variable {X : Cx} {EX : XR} {g : List Sl} {k : Nat} {f : Addr} {fd : FuncData} {ps : List Str}
theorem call_g {pins : List (Addr × Obj)} {σ : L2.St} {H : Hp} {s : Shared} {Q : VK} {us : List Value} {vs : List V} {sp : Sp} (F : FnG X.prog X.w X.K X.mg X.base k f fd ps sp) (hr : Room k X.A) (gu : X.A.guards = some []) (hb : Binds X.K fd ps [])
    (I : Inv X pins σ H s) (r : Vals vs us) (h : sp vs H Q E0) : wpAny (model X.prog X.w) X.A (call (.ref f) us) (EP X pins σ Q) X.xe s := by
  have hl : us.length = ps.length := by rw [← r.length]; exact F.len _ _ _ _ h
  have hb' := hb s us I.kIn (by rw [List.append_nil]; exact hl)
  rw [List.append_nil] at hb'
  refine wpAny_call (codeAny_mono (F.run X.A X.stack s H ⟨us, []⟩ us vs Q E0 hr gu I.env0 hb' r h) fun z s' hq => ?_)
  cases z with
  | error e => exact False.elim hq
  | ok fl =>
    cases fl with
    | ret u => exact I.after hq
    | next => exact False.elim hq
    | brk => exact False.elim hq
    | cont => exact False.elim hq
theorem pe_g {x : Str} {p pos : Pos} {e : Expr} {es : List Expr} {t : TA} {sp : Sp} (F : FnG X.prog X.w X.K X.mg X.base k f fd ps sp) (hr : Room k X.A) (gu : X.A.guards = some []) (hg : Gl X x) (hm : X.mg x = some (.ref f)) (hk : PySem.W.keepIn X.K (.ref f) = true) (hb : Binds X.K fd ps [])
    (ha : PA X (e :: es) t) (hd : (x == ("__debug__" : Str)) = false) (he : starEach (e :: es) X.env = (false, eval e X.env) :: starEach es X.env) (hpl : (backTo pos (starEach es X.env)).any (·.1) = false) : PE X (.Call (.Name x p) (e :: es) [] pos) (fun σ H Q => t σ H fun vs H1 => sp vs H1 Q E0) :=
  ⟨fun pins s σ H Q I h => wpAny_Call_Name_kw (ld_glob I hg hm (PySem.W.callWith_K (h₀ := X.base) I.ok.mod.kin hk (thn (ha.run pos pins s σ H _ I h) fun us s1 ⟨vs, H1, I1, r, q⟩ => ⟨I1.kIn, call_g F hr gu hb I1 r q⟩) he hpl) hd)⟩
/-- a deck that the callee does not see stays -/
theorem Fm.back {K : PySem.W.Frag} {B : Bs} {H G H' G' : Hp} {n n' : Wd} {dk : Option (Addr × Addr)} {σ : L2.St} (o : Ok K B g σ H G n) (hd : dk = none ∧ n'.n = n.n ∨ dk = B.dk) (f : Fm K ⟨H, G, dk, G⟩ H' G' n') : Ok K B g σ H' G' n' ∧ Same G G' := by
  have old : Same G G' := f.old
  have dkB : ∀ x y, dk = some (x, y) → B.dk = some (x, y) := fun x y e => by
    rcases hd with ⟨hd, _⟩ | hd
    · rw [hd] at e; cases e
    · exact hd.symm.trans e
  have hfp : ∀ a, B.H a ≠ none → (⟨H, G, dk, G⟩ : Bs).fp a → B.fp a := fun a ha hp => by
    rcases hp with ⟨x, y, e, r⟩ | ⟨k, e, m⟩
    · exact .inl ⟨x, y, dkB x y e, r⟩
    · cases eb : B.G a with
      | none =>
        have e' : G a = some k := e
        rw [o.fm.new a ha eb] at e'
        cases e'
      | some u =>
        have e' : G a = some k := e
        rw [o.fm.old _ _ eb] at e'
        cases e'
        exact .inr ⟨_, eb, m⟩
  have nfp : ∀ a, B.H a = none → G a = none → ¬ (⟨H, G, dk, G⟩ : Bs).fp a := fun a ha hg hp => by
    rcases hp with ⟨x, y, e, r⟩ | ⟨k, e, _⟩
    · exact o.fm.side ha (.inl ⟨x, y, dkB x y e, r⟩)
    · have e' : G a = some k := e
      rw [hg] at e'; cases e'
  have some_of : ∀ a, B.H a ≠ none → H a ≠ none := fun a ha => by
    by_cases hp : B.fp a
    · exact o.fm.fpThere hp
    · cases hb : B.H a with
      | none => exact absurd hb ha
      | some z => rw [o.fm.keep a z hb hp]; simp
  refine ⟨⟨⟨fun a z e q => f.keep a z (o.fm.keep a z e q) fun hp => q (hfp a (by rw [e]; simp) hp), f.sub, o.fm.old.trans old, f.obs, o.fm.bt, o.fm.tg.trans old, fun a e q => f.new a (some_of a e) (o.fm.new a e q), fun a b e => ?_⟩, o.len, fun i d e => ?_, ?_, o.dck, fun i a od fs e => ⟨(o.adr i a od fs e).1, (o.adr i a od fs e).2.mono old⟩, fun i f F e => ⟨(o.fnc i f F e).1, (o.fnc i f F e).2.2 _ _ old (o.fnc i f F e).2.1, (o.fnc i f F e).2.2⟩⟩, old⟩
  · obtain ⟨d1, r⟩ := o.fm.deck a b e
    rcases hd with ⟨hd, hn⟩ | hd
    · obtain ⟨cs, c, h1, h2, h3⟩ := d1
      have nf : ∀ z, B.H z ≠ none → B.G z = none → ¬ (⟨H, G, dk, G⟩ : Bs).fp z := fun z hz hg hp => by
        rcases hp with ⟨x, y, e2, _⟩ | ⟨k, e2, _⟩
        · have e' : dk = some (x, y) := e2
          rw [hd] at e'; cases e'
        · have e' : G z = some k := e2
          rw [o.fm.new z hz hg] at e'; cases e'
      exact ⟨⟨cs, c, f.keep a _ h1 (nf a r.1 r.2.2.1), f.keep b _ h2 (nf b r.2.1 r.2.2.2), by rw [hn]; exact h3⟩, r⟩
    · exact ⟨(f.deck a b (by show dk = some (a, b); rw [hd]; exact e)).1, r⟩
  · obtain ⟨v, h1, h2⟩ := o.val i d e
    exact ⟨v, h1, h2.mono old⟩
  · obtain ⟨fn, h1, h2⟩ := o.own
    refine ⟨fn, h1, fun i ds e => ?_⟩
    obtain ⟨a, b, c, xs, d, da⟩ := h2 i ds e
    exact ⟨a, f.new _ (by show H (fn i) ≠ none; rw [d]; simp) b, c, xs, f.keep _ _ d (nfp _ c b), da.mono old⟩
theorem ArgsOk.base {K : PySem.W.Frag} {B B' : Bs} {G : Hp} (h : B'.dk = B.dk) : ∀ {vs : List V} {as : List Sl}, ArgsOk K B G vs as → ArgsOk K B' G vs as
  | _, _, .nil => .nil
  | _, _, .cons (a := .val d) q r => .cons (show Da _ _ _ _ from q) (r.base h)
  | _, _, .cons (a := .deck) ⟨a, b, e, ev⟩ r => .cons ⟨a, b, h.trans e, ev⟩ (r.base h)
  | _, _, .cons (a := .own _) q _ => q.elim
  | _, _, .cons (a := .any) q _ => q.elim
  | _, _, .cons (a := .exn _ _ _) q _ => q.elim
  | _, _, .cons (a := .fn _ _) q _ => q.elim
theorem Fm.at_call {K : PySem.W.Frag} {B : Bs} {H G : Hp} {n : Wd} (f : Fm K B H G n) : Fm K ⟨H, G, B.dk, G⟩ H G n where
  keep := fun a o e _ => e
  sub := f.sub
  old := Same.refl _
  obs := f.obs
  bt := f.sub.t
  tg := Same.refl _
  new := fun a _ q => q
  deck := fun a b e => by
    obtain ⟨d, h1, h2, h3, h4⟩ := f.deck a b e
    obtain ⟨cs, c, e1, e2, r⟩ := id d
    exact ⟨d, by show H a ≠ none; rw [e1]; simp, by show H b ≠ none; rw [e2]; simp, f.new a h1 h3, f.new b h2 h4⟩
/-- f(..) by its mirror -/
theorem ej_call {x : Str} {p pos : Pos} {e : Expr} {es : List Expr} {F : List Sl → m D} {y : m (List Sl)} [Calm m] (Fn : FnG X.prog X.w X.K X.mg X.base k f fd ps (spJ X.K F)) (hr : Room k X.A) (gu : X.A.guards = some []) (hm : X.mg x = some (.ref f)) (hk : PySem.W.keepIn X.K (.ref f) = true) (hb : Binds X.K fd ps [])
    (ha : AJ X EX (e :: es) g y) (hg : Gl X x := by rfl) (hd : (x == ("__debug__" : Str)) = false := by decide) (he : starEach (e :: es) X.env = (false, eval e X.env) :: starEach es X.env := by rfl) (hpl : (backTo pos (starEach es X.env)).any (·.1) = false := by rfl) :
    EJ X EX (.Call (.Name x p) (e :: es) [] pos) g (y >>= F) :=
  (pe_g Fn hr gu hg hm hk hb ha hd he hpl).weak fun σ H Q ⟨B, G, n, φ, ξ, o, s, q, xw⟩ => ⟨B, G, n, _, ξ, o, Mo.sat_bind s, fun vs H1 G1 as n1 o1 g1 a1 s1 =>
    ⟨G1, n1, B.dk, as, φ, ArgsOk.base (B := B) (B' := ⟨H1, G1, B.dk, G1⟩) rfl a1, o1.fm.at_call, Calm.calm s1, fun v H' G' d n' f' dv p => by
      obtain ⟨o2, g2⟩ := Fm.back o1 (.inr rfl) f'
      exact q v H' G' d n' o2 (g1.trans g2) dv p⟩, xw⟩
/-- .. a mirror without the deck, lifted -/
class Up (m' m : Type → Type) [Mo m'] [Mo m] where
  up : {α : Type} → m' α → m α
  sat_up : ∀ {α : Type} {x : m' α} {n : Wd} {φ : α → Wd → Prop} {ξ : Exn → Wd → Prop}, Mo.sat (up x) n φ ξ → Mo.sat x n φ ξ
instance : Up Option W where
  up := Mo.lift
  sat_up := fun {α x n φ ξ} h => by
    obtain ⟨h1, a, e, h2⟩ := h
    obtain ⟨k, ob⟩ := n
    cases h1
    exact ⟨rfl, a, e, h2⟩
instance : Up Option Option where
  up := fun o => o
  sat_up := fun h => h
end
end DD
namespace DD
open PySem PySem.Spec PyProof.Rows L2
def orR (r q : R2) : R2 := fun x y H Q => r x y H Q ∨ q x y H Q
theorem op_or {X : Cx} {f : Value → Value → Sem Value} {r q : R2} (a : OpR X f r) (b : OpR X f q) : OpR X f (orR r q) := by
  intro pins s σ H x y v u Q I rx ry h
  rcases h with h | h
  · exact a pins s σ H x y v u Q I rx ry h
  · exact b pins s σ H x y v u Q I rx ry h
section
variable {X : Cx} {K : PySem.W.Frag}
theorem Da.toI {G : Hp} {v : V} {i : Int} (h : Da K G v (.int i)) : v = .int i := by cases h; rfl
theorem Da.toS {G : Hp} {v : V} {i : Str} (h : Da K G v (.str i)) : v = .str i := by cases h; rfl
theorem Da.toT {G : Hp} {v : V} {ds : List D} (h : Da K G v (.tuple ds)) : ∃ a xs, v = .ref a ∧ SqT K G a xs ∧ DaAll K G xs ds := by cases h with | tup a b => exact ⟨_, _, rfl, a, b⟩
theorem Da.toL {G : Hp} {v : V} {ds : List D} (h : Da K G v (.list ds)) : ∃ a xs, v = .ref a ∧ G a = some (.lst xs) ∧ DaAll K G xs ds := by cases h with | lst a b => exact ⟨_, _, rfl, a, b⟩
/-! ### + -/
def addD : D → D → Option D
  | .int i, .int j => some (.int (i + j))
  | .tuple a, .tuple b => (small (a ++ b)).map .tuple
  | .list a, .list b => (small (a ++ b)).map .list
  | .str a, .str b => if a.length + b.length ≤ 1000000 then some (.str (a ++ b)) else none
  | _, _ => none
abbrev rAddD (K : PySem.W.Frag) : R2 := orR (rI0 fun i j => .int (i + j)) (orR (rCatA K) (orR rCat (fun x y H Q => ∃ a b, x = .str a ∧ y = .str b ∧ a.length + b.length ≤ sizeLine ∧ Q (.str (a ++ b)) H)))
theorem op_addD : OpR X (binaryOp .Add) (rAddD X.K) := op_or op_add (op_or op_catA (op_or op_cat op_add_str))
theorem rd_add : RD K (rAddD K) addD := by
  intro x y dx dy z H G Q hx hy hs e q
  unfold addD at e
  split at e
  · cases e
    exact .inl ⟨_, _, hx.toI, hy.toI, q _ H G (Gr.refl hs) (.int _)⟩
  · rename_i as bs
    obtain ⟨es, ee, rfl⟩ := Option.map_eq_some_iff.mp e
    obtain ⟨rfl, hl⟩ := small_eq ee
    obtain ⟨a, xs, rfl, ha, da⟩ := hx.toT
    obtain ⟨b, ys, rfl, hb, db⟩ := hy.toT
    rw [List.length_append] at hl
    refine .inr (.inl ⟨a, b, xs, ys, rfl, rfl, sameT hs ha, sameT hs hb, by rw [da.length, db.length]; exact le_line hl, fun e => ?_, fun n e => ?_, fun n k p hp => ?_⟩)
    · subst e
      cases da
      exact q _ H G (Gr.refl hs) (.tup hb db)
    · subst e
      cases db
      rw [List.append_nil] at q
      exact q _ H G (Gr.refl hs) (.tup ha da)
    · have gr := Gr.alloc (u := .tup (xs ++ ys)) hs hp
      exact q _ _ _ gr (.tup (.inl (.inl upd_same)) ((da.append db).mono gr.g))
  · rename_i as bs
    obtain ⟨es, ee, rfl⟩ := Option.map_eq_some_iff.mp e
    obtain ⟨rfl, hl⟩ := small_eq ee
    obtain ⟨a, xs, rfl, ha, da⟩ := hx.toL
    obtain ⟨b, ys, rfl, hb, db⟩ := hy.toL
    rw [List.length_append] at hl
    refine .inr (.inr (.inl ⟨a, b, xs, ys, rfl, rfl, hs.h _ _ ha rfl, hs.h _ _ hb rfl, by rw [da.length, db.length]; exact le_line hl, fun p hp => ?_⟩))
    have gr := Gr.alloc (u := .lst (xs ++ ys)) hs hp
    exact q _ _ _ gr (.lst upd_same ((da.append db).mono gr.g))
  · split at e
    · rename_i hl
      cases e
      exact .inr (.inr (.inr ⟨_, _, hx.toS, hy.toS, le_line hl, q _ H G (Gr.refl hs) (.str _)⟩))
    · cases e
  · cases e
/-! ### ints -/
def intD2 (f : Int → Int → Option D) : D → D → Option D
  | .int i, .int j => f i j
  | _, _ => none
theorem rd_int {C : Int → Int → Prop} {h : Int → Int → V} {f : Int → Int → Option D} (hf : ∀ i j z, f i j = some z → C i j ∧ ∀ K G, Da K G (h i j) z) : RD K (rI C h) (intD2 f) := by
  intro x y dx dy z H G Q hx hy hs e q
  unfold intD2 at e
  split at e
  · obtain ⟨c, d⟩ := hf _ _ _ e
    exact ⟨_, _, hx.toI, hy.toI, c, q _ H G (Gr.refl hs) (d _ _)⟩
  · cases e
theorem rd_int0 {h : Int → Int → V} {f : Int → Int → Option D} (hf : ∀ i j z, f i j = some z → ∀ K G, Da K G (h i j) z) : RD K (rI0 h) (intD2 f) := by
  intro x y dx dy z H G Q hx hy hs e q
  unfold intD2 at e
  split at e
  · exact ⟨_, _, hx.toI, hy.toI, q _ H G (Gr.refl hs) (hf _ _ _ e _ _)⟩
  · cases e
def subD : D → D → Option D := intD2 fun i j => some (.int (i - j))
theorem rd_sub : RD K (rI0 fun i j => .int (i - j)) subD := rd_int0 fun i j z e _ _ => by cases e; exact .int _
def divD : D → D → Option D := intD2 fun i j => if 0 < j ∧ j.natAbs < 1073741824 then some (.int (i / j)) else none
theorem rd_div : RD K (rI CDiv fun i j => .int (i / j)) divD := rd_int fun i j z e => by
  split at e
  · rename_i h; cases e; exact ⟨⟨h.1, by omega⟩, fun _ _ => .int _⟩
  · cases e
def modD : D → D → Option D := intD2 fun i j => if 0 < j then some (.int (i % j)) else none
theorem rd_mod : RD K (rI (fun _ j => 0 < j) fun i j => .int (i % j)) modD := rd_int fun i j z e => by
  split at e
  · rename_i h; cases e; exact ⟨h, fun _ _ => .int _⟩
  · cases e
def powD : D → D → Option D := intD2 fun i j => if 0 ≤ j ∧ j ≤ 1000000 ∧ i.natAbs < 2 ^ 64 then some (.int (i ^ j.toNat)) else none
theorem rd_pow : RD K (rI CPow fun i j => .int (i ^ j.toNat)) powD := rd_int fun i j z e => by
  split at e
  · rename_i h; cases e; exact ⟨h, fun _ _ => .int _⟩
  · cases e
def ltD : D → D → Option D := intD2 fun i j => some (.bool (decide (i < j)))
def leD : D → D → Option D := intD2 fun i j => some (.bool (decide (i ≤ j)))
def gtD : D → D → Option D := intD2 fun i j => some (.bool (decide (j < i)))
def geD : D → D → Option D := intD2 fun i j => some (.bool (decide (j ≤ i)))
theorem rd_lt : RD K (rI0 fun i j => .bl (decide (i < j))) ltD := rd_int0 fun i j z e _ _ => by cases e; exact .bl _
theorem rd_gt : RD K (rI0 fun i j => .bl (decide (j < i))) gtD := rd_int0 fun i j z e _ _ => by cases e; exact .bl _
theorem rd_ge : RD K (rI0 fun i j => .bl (decide (j ≤ i))) geD := rd_int0 fun i j z e _ _ => by cases e; exact .bl _
def negD : D → Option D
  | .int i => some (.int (-i))
  | _ => none
/-! ### == != of data -/
/-- == of what is told apart (or alike) without a look at the items: lists of unlike lengths, a tuple and the empty one -/
def lensD : D → D → Option Bool
  | .list xs, .list ys => if xs.length = ys.length then none else some false
  | .tuple xs, .tuple ys => if xs.length = 0 ∨ ys.length = 0 then some (decide (xs.length = ys.length)) else none
  | _, _ => none
def eqD : D → D → Option D
  | .str a, .str b => some (.bool (decide (a = b)))
  | a, b => if SeqAt.shaped a = true ∧ SeqAt.shaped b = true then some (.bool (PyData.eqv a b)) else (lensD a b).map fun k => .bool k
def neD : D → D → Option D
  | .str a, .str b => some (.bool (!decide (a = b)))
  | a, b => if SeqAt.shaped a = true ∧ SeqAt.shaped b = true then some (.bool (!PyData.eqv a b)) else (lensD a b).map fun k => .bool (!k)
def rEqS (K : PySem.W.Frag) : R2 := fun x y H Q => ∃ d e, Da K H x d ∧ Da K H y e ∧ SeqAt.shaped d = true ∧ SeqAt.shaped e = true ∧ Q (.bl (PyData.eqv d e)) H
def rNeS (K : PySem.W.Frag) : R2 := fun x y H Q => ∃ d e, Da K H x d ∧ Da K H y e ∧ SeqAt.shaped d = true ∧ SeqAt.shaped e = true ∧ Q (.bl (!PyData.eqv d e)) H
def LenAt (K : PySem.W.Frag) (H : Hp) (x y : V) (k : Bool) : Prop := (∃ a b xs ys, x = .ref a ∧ y = .ref b ∧ SqL K H a xs ∧ SqL K H b ys ∧ xs.length ≠ ys.length ∧ k = false) ∨
  (∃ a b xs ys, x = .ref a ∧ y = .ref b ∧ SqT K H a xs ∧ SqT K H b ys ∧ (xs.length = 0 ∨ ys.length = 0) ∧ k = decide (xs.length = ys.length))
def rEqL (K : PySem.W.Frag) : R2 := fun x y H Q => ∃ k, LenAt K H x y k ∧ Q (.bl k) H
def rNeL (K : PySem.W.Frag) : R2 := fun x y H Q => ∃ k, LenAt K H x y k ∧ Q (.bl (!k)) H
abbrev rEqA (K : PySem.W.Frag) : R2 := orR (rEqS K) (orR (rEqL K) rEq)
abbrev rNeA (K : PySem.W.Frag) : R2 := orR (rNeS K) (orR (rNeL K) rNe)
theorem op_eqS (hy : Sys X) (hu : X.A.units + 64 < cLine) : OpR X (compareOp .Eq) (rEqS X.K) := by
  intro pins s σ H x y v u Q I rx ry ⟨d, e, hd, he, sd, se, q⟩
  obtain ⟨as, r1, _⟩ := Da.reads hy I d x v hd (ok_canLay d (SeqAt.canLay_of_shaped sd)) rx
  obtain ⟨bs, r2, _⟩ := Da.reads hy I e y u he (ok_canLay e (SeqAt.canLay_of_shaped se)) ry
  exact SeqAt.compareEq_shaped r1 r2 sd se hu ⟨.bl _, H, I, rfl, q⟩
theorem op_neS (hy : Sys X) (hu : X.A.units + 64 < cLine) : OpR X (compareOp .NotEq) (rNeS X.K) := by
  intro pins s σ H x y v u Q I rx ry ⟨d, e, hd, he, sd, se, q⟩
  obtain ⟨as, r1, _⟩ := Da.reads hy I d x v hd (ok_canLay d (SeqAt.canLay_of_shaped sd)) rx
  obtain ⟨bs, r2, _⟩ := Da.reads hy I e y u he (ok_canLay e (SeqAt.canLay_of_shaped se)) ry
  exact SeqAt.compareNe_shaped r1 r2 sd se hu ⟨.bl _, H, I, rfl, q⟩
theorem lens_at {pins : List (Addr × Obj)} {σ : L2.St} {H : Hp} {s : Shared} {A : Around} {x y : V} {k : Bool} {v u : Value} (I : Inv X pins σ H s) (rx : RelV x v) (ry : RelV y u) (hk : LenAt X.K H x y k) (hu : A.units < cLine) : SeqAt.RcAt A s v u k ∧ SeqAt.RcNeAt A s v u (!k) := by
  rcases hk with ⟨a, b, xs, ys, rfl, rfl, ha, hb, hne, rfl⟩ | ⟨a, b, xs, ys, rfl, rfl, ha, hb, hz, rfl⟩
  · cases rx
    cases ry
    obtain ⟨its, rv, ⟨o, n, h1, h2, _, h3⟩, _⟩ := I.list ha
    obtain ⟨jts, rw, ⟨p, m, k1, k2, _, k3⟩, _⟩ := I.list hb
    have n1 := rv.length
    have n2 := rw.length
    exact ⟨SeqAt.RcAt.lists_lengths ⟨_, h1, h2, _, h3⟩ ⟨_, k1, k2, _, k3⟩ (by simp at n1 n2 ⊢; omega) hu, SeqAt.RcNeAt.lists_lengths ⟨_, h1, h2, _, h3⟩ ⟨_, k1, k2, _, k3⟩ (by simp at n1 n2 ⊢; omega) hu⟩
  · cases rx
    cases ry
    obtain ⟨its, rv, ⟨o, h1, h2, n, h3⟩, _⟩ := I.tuple ha
    obtain ⟨jts, rw, ⟨p, k1, k2, m, k3⟩, _⟩ := I.tuple hb
    have n1 : its.toArray.size = xs.length := by simpa using rv.length.symm
    have n2 : jts.toArray.size = ys.length := by simpa using rw.length.symm
    have e0 : ((List.range (min its.toArray.size jts.toArray.size)).all (fun _ => true) && its.toArray.size == jts.toArray.size) = decide (xs.length = ys.length) := by
      rw [n1, n2]
      rw [Bool.eq_iff_iff]; simp
    have q1 := SeqAt.RcAt.tuples (A := A) (e := fun _ => true) (s := s) (l := a) (b := b) (items := its.toArray) (items2 := jts.toArray) ⟨_, h1, h2, _, h3⟩ ⟨_, k1, k2, _, k3⟩ hu (fun j j1 j2 => by omega)
    have q2 := SeqAt.RcNeAt.tuples (A := A) (e := fun _ => true) (s := s) (l := a) (b := b) (items := its.toArray) (items2 := jts.toArray) ⟨_, h1, h2, _, h3⟩ ⟨_, k1, k2, _, k3⟩ hu (fun j j1 j2 => by omega)
    rw [e0] at q1 q2
    exact ⟨q1, q2⟩
theorem op_eqL (hu : X.A.units + 64 < cLine) : OpR X (compareOp .Eq) (rEqL X.K) := by
  intro pins s σ H x y v u Q I rx ry ⟨k, hk, q⟩
  exact (lens_at I rx ry hk (by omega)).1 X.prog X.w X.xe _ ⟨.bl _, H, I, rfl, q⟩
theorem op_neL (hu : X.A.units + 64 < cLine) : OpR X (compareOp .NotEq) (rNeL X.K) := by
  intro pins s σ H x y v u Q I rx ry ⟨k, hk, q⟩
  exact (lens_at I rx ry hk (by omega)).2 X.prog X.w X.xe _ ⟨.bl _, H, I, rfl, q⟩
theorem lens_da {x y : V} {dx dy : D} {k : Bool} {G H : Hp} (hx : Da K G x dx) (hy : Da K G y dy) (hs : SubM G H) (hk : lensD dx dy = some k) : LenAt K H x y k := by
  unfold lensD at hk
  split at hk
  · split at hk
    · cases hk
    · rename_i hne
      cases hk
      obtain ⟨a, xs, rfl, ha, da⟩ := hx.toL
      obtain ⟨b, ys, rfl, hb, db⟩ := hy.toL
      exact .inl ⟨a, b, xs, ys, rfl, rfl, .of (hs.h _ _ ha rfl), .of (hs.h _ _ hb rfl), by rw [da.length, db.length]; exact hne, rfl⟩
  · split at hk
    · rename_i hz
      cases hk
      obtain ⟨a, xs, rfl, ha, da⟩ := hx.toT
      obtain ⟨b, ys, rfl, hb, db⟩ := hy.toT
      exact .inr ⟨a, b, xs, ys, rfl, rfl, sameT hs ha, sameT hs hb, by rw [da.length, db.length]; exact hz, by rw [da.length, db.length]⟩
    · cases hk
  · cases hk
theorem op_eqA (hy : Sys X) (hu : X.A.units + 64 < cLine) : OpR X (compareOp .Eq) (rEqA X.K) := op_or (op_eqS hy hu) (op_or (op_eqL hu) op_eq)
theorem op_neA (hy : Sys X) (hu : X.A.units + 64 < cLine) : OpR X (compareOp .NotEq) (rNeA X.K) := op_or (op_neS hy hu) (op_or (op_neL hu) op_ne)
theorem str_eqV (a b : Str) : decide (V.str a = V.str b) = decide (a = b) := by
  by_cases h : a = b
  · rw [decide_eq_true h, decide_eq_true (by rw [h])]
  · rw [decide_eq_false h, decide_eq_false (fun e => h (V.str.inj e))]
theorem rd_eq : RD K (rEqA K) eqD := by
  intro x y dx dy z H G Q hx hy hs e q
  unfold eqD at e
  split at e
  · rename_i a b
    cases e
    cases hx
    cases hy
    exact .inr (.inr ⟨rfl, by rw [str_eqV]; exact q _ H G (Gr.refl hs) (.bl _)⟩)
  · split at e
    · rename_i h
      cases e
      exact .inl ⟨dx, dy, hx.toH hs (ok_canLay _ (SeqAt.canLay_of_shaped h.1)), hy.toH hs (ok_canLay _ (SeqAt.canLay_of_shaped h.2)), h.1, h.2, q _ H G (Gr.refl hs) (.bl _)⟩
    · obtain ⟨k, hk, rfl⟩ := Option.map_eq_some_iff.mp e
      exact .inr (.inl ⟨k, lens_da hx hy hs hk, q _ H G (Gr.refl hs) (.bl _)⟩)
theorem rd_ne : RD K (rNeA K) neD := by
  intro x y dx dy z H G Q hx hy hs e q
  unfold neD at e
  split at e
  · rename_i a b
    cases e
    cases hx
    cases hy
    exact .inr (.inr ⟨rfl, by rw [str_eqV]; exact q _ H G (Gr.refl hs) (.bl _)⟩)
  · split at e
    · rename_i h
      cases e
      exact .inl ⟨dx, dy, hx.toH hs (ok_canLay _ (SeqAt.canLay_of_shaped h.1)), hy.toH hs (ok_canLay _ (SeqAt.canLay_of_shaped h.2)), h.1, h.2, q _ H G (Gr.refl hs) (.bl _)⟩
    · obtain ⟨k, hk, rfl⟩ := Option.map_eq_some_iff.mp e
      exact .inr (.inl ⟨k, lens_da hx hy hs hk, q _ H G (Gr.refl hs) (.bl _)⟩)
/-! ### is None -/
def isNone : D → Bool
  | .none => true
  | _ => false
def isD (a b : D) : Option D := if isNone b then some (.bool (isNone a)) else none
def isnD (a b : D) : Option D := if isNone b then some (.bool (!isNone a)) else none
theorem Da.isN {G : Hp} {v : V} {d : D} (h : Da K G v d) : decide (v = .non) = isNone d := by
  cases h <;> simp [isNone]
theorem Da.eqN {G : Hp} {v : V} {d : D} (h : Da K G v d) (e : isNone d = true) : v = .non := by
  rw [← h.isN] at e
  exact of_decide_eq_true e
theorem rd_is : RD K (fun x y H Q => y = .non ∧ Q (.bl (decide (x = .non))) H) isD := by
  intro x y dx dy z H G Q hx hy hs e q
  unfold isD at e
  split at e
  · rename_i h
    cases e
    refine ⟨hy.eqN h, ?_⟩
    rw [hx.isN]
    exact q _ H G (Gr.refl hs) (.bl _)
  · cases e
theorem rd_isn : RD K (fun x y H Q => y = .non ∧ Q (.bl (!decide (x = .non))) H) isnD := by
  intro x y dx dy z H G Q hx hy hs e q
  unfold isnD at e
  split at e
  · rename_i h
    cases e
    refine ⟨hy.eqN h, ?_⟩
    rw [hx.isN]
    exact q _ H G (Gr.refl hs) (.bl _)
  · cases e
/-! ### subscripts -/
theorem DaAll.atI {G : Hp} {vs : List V} {ds : List D} {i : Int} {d : D} (h : DaAll K G vs ds) (e : L2.atI ds i = some d) : ∃ v, L2.atI vs i = some v ∧ Da K G v d := by
  unfold L2.atI at e ⊢
  rw [h.length]
  cases hk : ixN ds.length i with
  | none => rw [hk] at e; cases e
  | some j =>
    rw [hk] at e
    obtain ⟨v, h1, h2⟩ := h.get (i := j) (d := d) e
    exact ⟨v, h1, h2⟩
def getD : D → D → Option D
  | .list ds, .int i => L2.atI ds i
  | .tuple ds, .int i => L2.atI ds i
  | .str z, .int i => if z.length ≤ 1000000 then (L2.atI z.cps.toList i).map fun c => .str ⟨#[c]⟩ else none
  | _, _ => none
theorem rd_ix : RD K (rIx K) getD := by
  intro x y dx dy z H G Q hx hy hs e q
  unfold getD at e
  split at e
  · obtain ⟨a, xs, rfl, ha, da⟩ := hx.toL
    obtain ⟨v, h1, h2⟩ := da.atI e
    exact .inl ⟨a, xs, _, v, rfl, hy.toI, .of (hs.h _ _ ha rfl), h1, q v H G (Gr.refl hs) h2⟩
  · obtain ⟨a, xs, rfl, ha, da⟩ := hx.toT
    obtain ⟨v, h1, h2⟩ := da.atI e
    exact .inr (.inl ⟨a, xs, _, v, rfl, hy.toI, sameT hs ha, h1, q v H G (Gr.refl hs) h2⟩)
  · split at e
    · rename_i hl
      obtain ⟨c, hc, rfl⟩ := Option.map_eq_some_iff.mp e
      exact .inr (.inr ⟨_, _, c, hx.toS, hy.toI, le_line hl, hc, q _ H G (Gr.refl hs) (.str _)⟩)
    · cases e
  · cases e
end
end DD
namespace DD
open PySem PySem.Spec PyProof.Rows L2
/-! ### * -/
theorem tuple_mul1 (l : Addr) (items : Array Value) (n : Nat) (dd : Option Addr) (sl : Array (Option Value)) (u : Tok) :
    Meets (Builtin.«tuple.__mul__» ⟨[.ref l, .int 1 u], []⟩) (fun _ R s => s.heap.get? l = some { cls := .type "tuple", dict := dd, data := .seq items n, slots := sl } ∧ R (.ok (.ret (Value.ref l))) s) :=
  .of_wp fun prog w A R s h => by
    obtain ⟨hp, g, d, tk, os⟩ := s
    obtain ⟨hl, h⟩ := h
    have f1 := AutoSeq1.idx_int
    have c1 : (items.isEmpty || (1 : Int) == 1) = true := by simp
    wp_walk using wpAny_loadPart' hl
    exact ⟨_, rfl, h⟩
def rMul1 (K : PySem.W.Frag) : R2 := fun x y H Q => ∃ l xs, x = .ref l ∧ y = .int 1 ∧ SqT K H l xs ∧ Q (.ref l) H
section
variable {X : Cx} {K : PySem.W.Frag}
theorem op_mul1 : OpR X (binaryOp .Mult) (rMul1 X.K) := by
  intro pins s σ H x y v u Q I rx ry ⟨l, xs, ex, ey, hT, q⟩
  subst ex ey
  cases rx
  obtain ⟨t, rfl⟩ := ry
  obtain ⟨its, r, ⟨⟨cls, dd, data, sl⟩, ho, hc, n, hd⟩, hs⟩ := I.tuple hT
  simp only at hc hd
  subst hc hd
  exact wpAny_binaryOp_repeat_ref (T := "tuple") (U := "int") (by decide) ⟨_, ho, rfl⟩ (fun s' => typeIs_int s' 1 t) noFill_tuple_mul F.fills_int_mul F.slot_int_rmul repeat_tuple F.slot_int_index.lookup
    (call_meets F.slot_int_rmul (typeIs_int s 1 t) F.entry_int_rmul (F.args_int_rmul_2 _ _) (int_rmul_tuple 1 t l its.toArray n dd sl)
      ⟨ho, rfl, ⟨_, ho, rfl⟩, call_meets F.slot_tuple_mul ⟨_, ho, rfl⟩ F.entry_tuple_mul (F.args_tuple_mul_2 _ _) (tuple_mul1 l its.toArray n dd sl t) ⟨ho, ⟨.ref l, H, I, rfl, q⟩⟩⟩)
theorem tuple_mul0 (l : Addr) (items : Array Value) (n : Nat) (dd : Option Addr) (sl : Array (Option Value)) (u : Tok) (c1 : (items.isEmpty || (0 : Int) == 1) = false) :
    Meets (Builtin.«tuple.__mul__» ⟨[.ref l, .int 0 u], []⟩) (fun _ R s => s.heap.get? l = some { cls := .type "tuple", dict := dd, data := .seq items n, slots := sl } ∧ R (.ok (.ret (Value.ref s.heap.objs.size))) { s with heap := s.heap.push { cls := Value.type "tuple", data := Data.seq #[] }, toks := s.toks }) :=
  .of_wp fun prog w A R s h => by
    obtain ⟨hp, g, d, tk, os⟩ := s
    obtain ⟨hl, h⟩ := h
    have f1 := AutoSeq1.idx_int
    wp_walk using wpAny_loadPart' hl
    refine wpAny_ite_false (decide_eq_false (by rw [c1]; exact Bool.false_ne_true)) ?_
    wp_walk using wpAny_loadPart' hl
    exact ⟨_, rfl, h⟩
def rMul0 (K : PySem.W.Frag) : R2 := fun x y H Q => ∃ l xs, x = .ref l ∧ y = .int 0 ∧ SqT K H l xs ∧ xs ≠ [] ∧ ∀ p, H p = none → Q (.ref p) (upd H p (.tup []))
theorem op_mul0 : OpR X (binaryOp .Mult) (rMul0 X.K) := by
  intro pins s σ H x y v u Q I rx ry ⟨l, xs, ex, ey, hT, hne, q⟩
  subst ex ey
  cases rx
  obtain ⟨t, rfl⟩ := ry
  obtain ⟨its, r, ⟨⟨cls, dd, data, sl⟩, ho, hc, n, hd⟩, hs⟩ := I.tuple hT
  simp only at hc hd
  subst hc hd
  have c1 : (its.toArray.isEmpty || (0 : Int) == 1) = false := by
    cases its with
    | nil => cases r; exact absurd rfl hne
    | cons a b => rfl
  exact wpAny_binaryOp_repeat_ref (T := "tuple") (U := "int") (by decide) ⟨_, ho, rfl⟩ (fun s' => typeIs_int s' 0 t) noFill_tuple_mul F.fills_int_mul F.slot_int_rmul repeat_tuple F.slot_int_index.lookup
    (call_meets F.slot_int_rmul (typeIs_int s 0 t) F.entry_int_rmul (F.args_int_rmul_2 _ _) (int_rmul_tuple 0 t l its.toArray n dd sl)
      ⟨ho, rfl, ⟨_, ho, rfl⟩, call_meets F.slot_tuple_mul ⟨_, ho, rfl⟩ F.entry_tuple_mul (F.args_tuple_mul_2 _ _) (tuple_mul0 l its.toArray n dd sl t c1) ⟨ho, ⟨.ref _, _, I.laid (t' := s.toks) (o := .tup []) (fun b ob q => Heap.get?_push_of_some _ q) (Nat.le_refl _) ⟨Nat.zero_le _, [], .nil, IsTup.new _ _⟩, rfl, q _ (I.hok.fresh (Nat.le_refl _))⟩⟩⟩)
abbrev rMulD (K : PySem.W.Frag) : R2 := orR (rI CMul fun i j => .int (i * j)) (orR (rRepT K) (orR (rMul1 K) (orR (rMul0 K) rRep)))
theorem op_mulD : OpR X (binaryOp .Mult) (rMulD X.K) := op_or op_mul (op_or op_repT (op_or op_mul1 (op_or op_mul0 op_rep)))
def mulD : D → D → Option D
  | .int i, .int j => if i.natAbs < 2 ^ 64 ∨ j.natAbs < 2 ^ 64 then some (.int (i * j)) else none
  | .tuple a, .int k => if k = 1 then some (.tuple a) else if a ≠ [] ∧ 2 ≤ k ∧ k ≤ 1000 ∧ a.length ≤ 1000 then some (.tuple (List.replicate k.toNat a).flatten) else if a ≠ [] ∧ k = 0 then some (.tuple []) else none
  | .list a, .int k => if 0 ≤ k ∧ k ≤ 1000 ∧ a.length ≤ 1000 then some (.list (List.replicate k.toNat a).flatten) else none
  | _, _ => none
theorem rd_mul : RD K (rMulD K) mulD := by
  intro x y dx dy z H G Q hx hy hs e q
  unfold mulD at e
  split at e
  · split at e
    · rename_i h
      cases e
      exact .inl ⟨_, _, hx.toI, hy.toI, (show (-(2 ^ 64) < _ ∧ _ < 2 ^ 64) ∨ (-(2 ^ 64) < _ ∧ _ < 2 ^ 64) by omega), q _ H G (Gr.refl hs) (.int _)⟩
    · cases e
  · obtain ⟨a, xs, rfl, ha, da⟩ := hx.toT
    rename_i as k
    split at e
    · rename_i h
      subst h
      cases e
      exact .inr (.inr (.inl ⟨a, xs, rfl, hy.toI, sameT hs ha, q _ H G (Gr.refl hs) (.tup ha da)⟩))
    · split at e
      · rename_i h
        cases e
        refine .inr (.inl ⟨a, _, xs, rfl, hy.toI, sameT hs ha, fun z => h.1 (by subst z; cases da; rfl), h.2.1, h.2.2.1, by rw [da.length]; exact h.2.2.2, fun p hp => ?_⟩)
        have gr := Gr.alloc (u := .tup (List.replicate k.toNat xs).flatten) hs hp
        exact q _ _ _ gr (.tup (.inl (.inl upd_same)) ((da.flatReplicate _).mono gr.g))
      · split at e
        · rename_i h
          obtain ⟨h1, h2⟩ := h
          subst h2
          cases e
          refine .inr (.inr (.inr (.inl ⟨a, xs, rfl, hy.toI, sameT hs ha, fun z => h1 (by subst z; cases da; rfl), fun p hp => ?_⟩)))
          have gr := Gr.alloc (u := .tup []) hs hp
          exact q _ _ _ gr (.tup (.inl (.inl upd_same)) .nil)
        · cases e
  · obtain ⟨a, xs, rfl, ha, da⟩ := hx.toL
    rename_i as k
    split at e
    · rename_i h
      cases e
      refine .inr (.inr (.inr (.inr ⟨a, _, xs, rfl, hy.toI, hs.h _ _ ha rfl, by omega, by omega, ?_, fun p hp => ?_⟩)))
      · have h1 : xs.length * k.toNat ≤ 1000 * 1000 := Nat.mul_le_mul (by rw [da.length]; exact h.2.2) (by omega)
        exact le_line h1
      · have gr := Gr.alloc (u := .lst (List.replicate k.toNat xs).flatten) hs hp
        exact q _ _ _ gr (.lst upd_same ((da.flatReplicate _).mono gr.g))
    · cases e
  · cases e
/-! ### built-ins -/
def callOr (r q : List V → Hp → VK → Prop) : List V → Hp → VK → Prop := fun xs H Q => r xs H Q ∨ q xs H Q
theorem call_or {f : Value} {r q : List V → Hp → VK → Prop} (a : CallR X f r) (b : CallR X f q) : CallR X f (callOr r q) := by
  intro pins s σ H xs us Q I rx h
  rcases h with h | h
  · exact a pins s σ H xs us Q I rx h
  · exact b pins s σ H xs us Q I rx h
def lenD : D → Option D
  | .list ds => some (.int ds.length)
  | .tuple ds => some (.int ds.length)
  | .str z => if z.length ≤ 1000000 then some (.int z.length) else none
  | _ => none
abbrev rLenD (K : PySem.W.Frag) := callOr (fun xs H Q => ∃ p ys, xs = [V.ref p] ∧ (SqL K H p ys ∨ SqT K H p ys) ∧ Q (.int ys.length) H) (fun xs H Q => ∃ z : Str, xs = [V.str z] ∧ z.length ≤ sizeLine ∧ Q (.int z.length) H)
theorem call_lenD' : CallR X (.builtin "len") (rLenD X.K) := call_or call_len_seq call_len_str
theorem rc_len : RC1 K (rLenD K) lenD := by
  intro x dx z H G Q hx hs e q
  unfold lenD at e
  split at e
  · cases e
    obtain ⟨a, xs, rfl, ha, da⟩ := hx.toL
    rw [← da.length] at q
    exact .inl ⟨a, xs, rfl, .inl (.of (hs.h _ _ ha rfl)), q _ H G (Gr.refl hs) (.int _)⟩
  · cases e
    obtain ⟨a, xs, rfl, ha, da⟩ := hx.toT
    rw [← da.length] at q
    exact .inl ⟨a, xs, rfl, .inr (sameT hs ha), q _ H G (Gr.refl hs) (.int _)⟩
  · split at e
    · rename_i h
      cases e
      cases hx
      exact .inr ⟨_, rfl, le_line h, q _ H G (Gr.refl hs) (.int _)⟩
    · cases e
  · cases e
def intD : D → Option D
  | .int i => some (.int i)
  | .bool b => some (.int (if b then 1 else 0))
  | _ => none
def tupleD : D → Option D
  | .list ds => some (.tuple ds)
  | .tuple ds => some (.tuple ds)
  | _ => none
theorem rc_tuple : RC1 K (fun xs H Q => ∃ p ys, xs = [V.ref p] ∧ ((SqL K H p ys ∧ ∀ l, H l = none → Q (.ref l) (upd H l (.tup ys))) ∨ (SqT K H p ys ∧ Q (.ref p) H))) tupleD := by
  intro x dx z H G Q hx hs e q
  unfold tupleD at e
  split at e
  · cases e
    obtain ⟨a, xs, rfl, ha, da⟩ := hx.toL
    refine ⟨a, xs, rfl, .inl ⟨.of (hs.h _ _ ha rfl), fun l hl => ?_⟩⟩
    have gr := Gr.alloc (u := .tup xs) hs hl
    exact q _ _ _ gr (.tup (.inl (.inl upd_same)) (da.mono gr.g))
  · cases e
    obtain ⟨a, xs, rfl, ha, da⟩ := hx.toT
    exact ⟨a, xs, rfl, .inr ⟨sameT hs ha, q _ H G (Gr.refl hs) (.tup ha da)⟩⟩
  · cases e
def bools : List D → Option (List Bool)
  | [] => some []
  | .bool b :: r => (bools r).map (b :: ·)
  | _ :: _ => none
theorem DaAll.bools {G : Hp} : ∀ {ds : List D} {vs : List V} {bs : List Bool}, DaAll K G vs ds → bools ds = some bs → vs = bs.map V.bl
  | [], _, _, .nil, e => by cases e; rfl
  | .bool b :: r, _, _, .cons h t, e => by
    obtain ⟨cs, ec, rfl⟩ := Option.map_eq_some_iff.mp e
    cases h
    rw [t.bools ec]
    rfl
  | .none :: _, _, _, _, e => by cases e
  | .int _ :: _, _, _, _, e => by cases e
  | .str _ :: _, _, _, _, e => by cases e
  | .list _ :: _, _, _, _, e => by cases e
  | .tuple _ :: _, _, _, _, e => by cases e
  | .dict _ :: _, _, _, _, e => by cases e
def allD : D → Option D
  | .list ds => (bools ds).map fun bs => .bool (bs.all id)
  | _ => none
theorem rc_all : RC1 K (rAll K) allD := by
  intro x dx z H G Q hx hs e q
  unfold allD at e
  split at e
  · obtain ⟨bs, eb, rfl⟩ := Option.map_eq_some_iff.mp e
    obtain ⟨a, xs, rfl, ha, da⟩ := hx.toL
    have := da.bools eb
    subst this
    exact ⟨a, bs, rfl, .of (hs.h _ _ ha rfl), q _ H G (Gr.refl hs) (.bl _)⟩
  · cases e
def intsD : List D → Option (List Int)
  | [] => some []
  | .int b :: r => (intsD r).map (b :: ·)
  | _ :: _ => none
theorem ints_map : ∀ {ds : List D} {ns : List Int}, intsD ds = some ns → ds = ns.map .int
  | [], _, e => by cases e; rfl
  | .int b :: r, _, e => by
    obtain ⟨cs, ec, rfl⟩ := Option.map_eq_some_iff.mp e
    rw [ints_map ec]
    rfl
  | .none :: _, _, e => by cases e
  | .bool _ :: _, _, e => by cases e
  | .str _ :: _, _, e => by cases e
  | .list _ :: _, _, e => by cases e
  | .tuple _ :: _, _, e => by cases e
  | .dict _ :: _, _, e => by cases e
/-! ### sum, max, min of lists and tuples of ints -/
section
variable {prog : Program} {w : World} {A : Around} {E : Value → Shared → Prop} {s : Shared} {l : Addr} {its : List Value} {ns : List Int} {Q : Value → Shared → Prop}
theorem iter_tup {items : Array Value} (hl : s.heap.IsTuple l items)
    (h : ∀ s2 : Shared, s2 = { s with heap := s.heap.push { cls := .type "tuple_iterator", data := .fields #[.ref l, .int 0 0] } } → (s2.heap.IsTupleIter s.heap.objs.size l 0 ∧ s2.heap.IsTuple l items) → (∀ b ∈ [s.heap.objs.size, l], b < s2.heap.objs.size) → l ≠ s.heap.objs.size → Q (.ref s.heap.objs.size) s2) :
    wpAny (model prog w) A (pyIter (.ref l)) Q E s := by
  have hlt : l < s.heap.objs.size := by obtain ⟨_, e, _⟩ := hl; exact Heap.lt_size e
  refine wpAny_pyIter_tuple hl (h _ rfl ⟨⟨_, Heap.get?_push_size _ rfl, rfl, rfl⟩, hl.push _⟩ (fun b hb => ?_) (Nat.ne_of_lt hlt))
  show b < (s.heap.push _).objs.size
  rw [Heap.size_push]
  have hb' : b = s.heap.objs.size ∨ b = l := by simpa using hb
  rcases hb' with rfl | rfl
  · exact Nat.lt_succ_self _
  · exact Nat.lt_succ_of_lt hlt
theorem kept_tup {h' : Heap} (hk : ∀ b o, b ∉ [s.heap.objs.size] → (s.heap.push { cls := .type "tuple_iterator", data := .fields #[.ref l, .int 0 0] }).get? b = some o → h'.get? b = some o) : ∀ b o, s.heap.get? b = some o → h'.get? b = some o := fun b o e =>
  hk b o (fun hm => by rw [List.mem_singleton.mp hm] at e; exact absurd (Heap.lt_size e) (Nat.lt_irrefl _)) (Heap.get?_push_of_some _ e)
theorem sum_tup (hh : A.handled = none) (hl : s.heap.IsTuple l its.toArray) (hi : IntsAre its ns)
    (h : ∀ h' tk t', (∀ b o, s.heap.get? b = some o → h'.get? b = some o) → Q (.int ns.sum t') { s with heap := h', toks := tk }) : wpAny (model prog w) A (call (.builtin "sum") [.ref l]) Q E s := by
  obtain ⟨xs, e⟩ := hi.allInts.items
  have hn : numsOf (intItems xs).toList = ns := by rw [← e]; exact hi.numsOf
  rw [nums_intItems] at hn
  rw [e] at hl
  refine call_sum_walkG (iter_tup hl fun s2 e2 st hfp hne => ?_)
  subst e2
  refine ⟨_, _, _, _, _, _, numAt xs, rfl, Walks.tuple (A := A.in1) hh _ l hne (intItems xs), st, hfp, (fun _ _ => intItems_at), fun h' tk t' hk => ?_⟩
  have q := h h' tk t' (kept_tup hk)
  rw [preSum_eq, List.take_of_length_le (by simp [intItems]), hn]
  exact q
theorem max_tup (hh : A.handled = none) (hl : s.heap.IsTuple l its.toArray) (hi : IntsAre its ns) (hne : 0 < ns.length)
    (h : ∀ h' tk M t', (∀ b o, s.heap.get? b = some o → h'.get? b = some o) → M ∈ ns → (∀ a, a ∈ ns → a ≤ M) → Q (.int M t') { s with heap := h', toks := tk }) : wpAny (model prog w) A (call (.builtin "max") [.ref l]) Q E s := by
  obtain ⟨xs, e⟩ := hi.allInts.items
  have hn : numsOf (intItems xs).toList = ns := by rw [← e]; exact hi.numsOf
  rw [nums_intItems] at hn
  subst hn
  rw [e] at hl
  have hsz : 0 < xs.size := by simpa using hne
  refine call_max_walk (iter_tup hl fun s2 e2 st hfp hn2 => ?_)
  subst e2
  refine ⟨_, _, _, _, _, _, _, rfl, Walks.tuple (A := A.in1) hh _ l hn2 (intItems xs), st, hfp, by simpa [intItems] using hsz, CmpOf.ints_gt (numAt xs) (fun _ _ => intItems_at), fun v h' tk hP hk => ?_⟩
  have hP' : (intItems xs)[argBest (fun i j => decide (numAt xs i > numAt xs j)) (xs.size - 1)]? = some v := by simpa [intItems] using hP
  obtain ⟨t, rfl⟩ := intItems_at hP'
  obtain ⟨h1, h2⟩ := argBest_gt (numAt xs) (xs.size - 1)
  refine h h' tk _ t (kept_tup hk) ?_ fun a ha => ?_
  · rw [numAt_eq]; exact PySem.getD_mem (by rw [List.length_map, Array.length_toList]; omega)
  · obtain ⟨j, hj, rfl⟩ := mem_getD ha
    rw [List.length_map, Array.length_toList] at hj
    rw [← numAt_eq]; exact h2 j (by omega)
theorem min_tup (hh : A.handled = none) (hl : s.heap.IsTuple l its.toArray) (hi : IntsAre its ns) (hne : 0 < ns.length)
    (h : ∀ h' tk M t', (∀ b o, s.heap.get? b = some o → h'.get? b = some o) → M ∈ ns → (∀ a, a ∈ ns → M ≤ a) → Q (.int M t') { s with heap := h', toks := tk }) : wpAny (model prog w) A (call (.builtin "min") [.ref l]) Q E s := by
  obtain ⟨xs, e⟩ := hi.allInts.items
  have hn : numsOf (intItems xs).toList = ns := by rw [← e]; exact hi.numsOf
  rw [nums_intItems] at hn
  subst hn
  rw [e] at hl
  have hsz : 0 < xs.size := by simpa using hne
  refine call_min_walk (iter_tup hl fun s2 e2 st hfp hn2 => ?_)
  subst e2
  refine ⟨_, _, _, _, _, _, _, rfl, Walks.tuple (A := A.in1) hh _ l hn2 (intItems xs), st, hfp, by simpa [intItems] using hsz, CmpOf.ints_lt (numAt xs) (fun _ _ => intItems_at), fun v h' tk hP hk => ?_⟩
  have hP' : (intItems xs)[argBest (fun i j => decide (numAt xs i < numAt xs j)) (xs.size - 1)]? = some v := by simpa [intItems] using hP
  obtain ⟨t, rfl⟩ := intItems_at hP'
  obtain ⟨h1, h2⟩ := argBest_lt (numAt xs) (xs.size - 1)
  refine h h' tk _ t (kept_tup hk) ?_ fun a ha => ?_
  · rw [numAt_eq]; exact PySem.getD_mem (by rw [List.length_map, Array.length_toList]; omega)
  · obtain ⟨j, hj, rfl⟩ := mem_getD ha
    rw [List.length_map, Array.length_toList] at hj
    rw [← numAt_eq]; exact h2 j (by omega)
end
end
end DD
namespace DD
open PySem PySem.Spec PyProof.Rows L2
section
variable {X : Cx} {K : PySem.W.Frag}
def rSumT (K : PySem.W.Frag) : List V → Hp → VK → Prop := fun vs H Q => ∃ (a : Addr) (ns : List Int), vs = [V.ref a] ∧ SqT K H a (ns.map V.int) ∧ Q (.int ns.sum) H
def rMaxT (K : PySem.W.Frag) : List V → Hp → VK → Prop := fun vs H Q => ∃ (a : Addr) (ns : List Int), vs = [V.ref a] ∧ SqT K H a (ns.map V.int) ∧ 0 < ns.length ∧ ∀ m, m ∈ ns → (∀ y, y ∈ ns → y ≤ m) → Q (.int m) H
def rMinT (K : PySem.W.Frag) : List V → Hp → VK → Prop := fun vs H Q => ∃ (a : Addr) (ns : List Int), vs = [V.ref a] ∧ SqT K H a (ns.map V.int) ∧ 0 < ns.length ∧ ∀ m, m ∈ ns → (∀ y, y ∈ ns → m ≤ y) → Q (.int m) H
theorem cr_sumT (hc : X.calm = true) : CallR X (.builtin "sum") (rSumT X.K) := by
  intro pins s σ H vs us Q I r ⟨a, ns, e, hs, q⟩
  subst e
  obtain ⟨its, rv, hl, _⟩ := I.tuple hs
  rw [Vals.ref1 r]
  exact sum_tup (I.ok.hd hc) hl rv.ints fun h' tk t' hk => ⟨.int _, H, I.kept hk, ⟨_, rfl⟩, q⟩
theorem cr_maxT (hc : X.calm = true) : CallR X (.builtin "max") (rMaxT X.K) := by
  intro pins s σ H vs us Q I r ⟨a, ns, e, hs, hne, q⟩
  subst e
  obtain ⟨its, rv, hl, _⟩ := I.tuple hs
  rw [Vals.ref1 r]
  exact max_tup (I.ok.hd hc) hl rv.ints hne fun h' tk m t' hk h1 h2 => ⟨.int _, H, I.kept hk, ⟨_, rfl⟩, q m h1 h2⟩
theorem cr_minT (hc : X.calm = true) : CallR X (.builtin "min") (rMinT X.K) := by
  intro pins s σ H vs us Q I r ⟨a, ns, e, hs, hne, q⟩
  subst e
  obtain ⟨its, rv, hl, _⟩ := I.tuple hs
  rw [Vals.ref1 r]
  exact min_tup (I.ok.hd hc) hl rv.ints hne fun h' tk m t' hk h1 h2 => ⟨.int _, H, I.kept hk, ⟨_, rfl⟩, q m h1 h2⟩
def sumD : D → Option D
  | .list ds => (intsD ds).map fun ns => .int ns.sum
  | .tuple ds => (intsD ds).map fun ns => .int ns.sum
  | _ => none
def maxD : D → Option D
  | .list ds => (intsD ds).bind fun ns => ns.max?.map .int
  | .tuple ds => (intsD ds).bind fun ns => ns.max?.map .int
  | _ => none
def minD : D → Option D
  | .list ds => (intsD ds).bind fun ns => ns.min?.map .int
  | .tuple ds => (intsD ds).bind fun ns => ns.min?.map .int
  | _ => none
abbrev rSumD (K : PySem.W.Frag) := callOr (rSum K) (rSumT K)
abbrev rMaxD (K : PySem.W.Frag) := callOr (rMax K) (rMaxT K)
abbrev rMinD (K : PySem.W.Frag) := callOr (rMin K) (rMinT K)
theorem call_sumD (hc : X.calm = true) : CallR X (.builtin "sum") (rSumD X.K) := call_or (cr_sum hc) (cr_sumT hc)
theorem call_maxD (hc : X.calm = true) : CallR X (.builtin "max") (rMaxD X.K) := call_or (cr_max hc) (cr_maxT hc)
theorem call_minD (hc : X.calm = true) : CallR X (.builtin "min") (rMinD X.K) := call_or (cr_min hc) (cr_minT hc)
theorem rc_sum : RC1 K (rSumD K) sumD := by
  intro x dx z H G Q hx hs e q
  unfold sumD at e
  split at e
  · obtain ⟨ns, en, rfl⟩ := Option.map_eq_some_iff.mp e
    have := ints_map en
    subst this
    obtain ⟨a, xs, rfl, ha, da⟩ := hx.toL
    have := da.ints
    subst this
    exact .inl ⟨a, ns, rfl, .of (hs.h _ _ ha rfl), q _ H G (Gr.refl hs) (.int _)⟩
  · obtain ⟨ns, en, rfl⟩ := Option.map_eq_some_iff.mp e
    have := ints_map en
    subst this
    obtain ⟨a, xs, rfl, ha, da⟩ := hx.toT
    have := da.ints
    subst this
    exact .inr ⟨a, ns, rfl, sameT hs ha, q _ H G (Gr.refl hs) (.int _)⟩
  · cases e
theorem max_is {ns : List Int} {m k : Int} (h1 : m ∈ ns) (h2 : ∀ y, y ∈ ns → y ≤ m) (e : ns.max? = some k) : m = k := by
  obtain ⟨a, b⟩ := List.max?_eq_some_iff.mp e
  have := b m h1
  have := h2 k a
  omega
theorem min_is {ns : List Int} {m k : Int} (h1 : m ∈ ns) (h2 : ∀ y, y ∈ ns → m ≤ y) (e : ns.min? = some k) : m = k := by
  obtain ⟨a, b⟩ := List.min?_eq_some_iff.mp e
  have := b m h1
  have := h2 k a
  omega
theorem max_ne {ns : List Int} {k : Int} (e : ns.max? = some k) : 0 < ns.length := by
  cases ns with
  | nil => cases e
  | cons a b => simp
theorem min_ne {ns : List Int} {k : Int} (e : ns.min? = some k) : 0 < ns.length := by
  cases ns with
  | nil => cases e
  | cons a b => simp
theorem rc_max : RC1 K (rMaxD K) maxD := by
  intro x dx z H G Q hx hs e q
  unfold maxD at e
  split at e
  · obtain ⟨ns, en, e⟩ := Option.bind_eq_some_iff.mp e
    obtain ⟨k, ek, rfl⟩ := Option.map_eq_some_iff.mp e
    have := ints_map en
    subst this
    obtain ⟨a, xs, rfl, ha, da⟩ := hx.toL
    have := da.ints
    subst this
    exact .inl ⟨a, ns, rfl, .of (hs.h _ _ ha rfl), max_ne ek, fun m h1 h2 => by rw [max_is h1 h2 ek]; exact q _ H G (Gr.refl hs) (.int _)⟩
  · obtain ⟨ns, en, e⟩ := Option.bind_eq_some_iff.mp e
    obtain ⟨k, ek, rfl⟩ := Option.map_eq_some_iff.mp e
    have := ints_map en
    subst this
    obtain ⟨a, xs, rfl, ha, da⟩ := hx.toT
    have := da.ints
    subst this
    exact .inr ⟨a, ns, rfl, sameT hs ha, max_ne ek, fun m h1 h2 => by rw [max_is h1 h2 ek]; exact q _ H G (Gr.refl hs) (.int _)⟩
  · cases e
theorem rc_min : RC1 K (rMinD K) minD := by
  intro x dx z H G Q hx hs e q
  unfold minD at e
  split at e
  · obtain ⟨ns, en, e⟩ := Option.bind_eq_some_iff.mp e
    obtain ⟨k, ek, rfl⟩ := Option.map_eq_some_iff.mp e
    have := ints_map en
    subst this
    obtain ⟨a, xs, rfl, ha, da⟩ := hx.toL
    have := da.ints
    subst this
    exact .inl ⟨a, ns, rfl, .of (hs.h _ _ ha rfl), min_ne ek, fun m h1 h2 => by rw [min_is h1 h2 ek]; exact q _ H G (Gr.refl hs) (.int _)⟩
  · obtain ⟨ns, en, e⟩ := Option.bind_eq_some_iff.mp e
    obtain ⟨k, ek, rfl⟩ := Option.map_eq_some_iff.mp e
    have := ints_map en
    subst this
    obtain ⟨a, xs, rfl, ha, da⟩ := hx.toT
    have := da.ints
    subst this
    exact .inr ⟨a, ns, rfl, sameT hs ha, min_ne ek, fun m h1 h2 => by rw [min_is h1 h2 ek]; exact q _ H G (Gr.refl hs) (.int _)⟩
  · cases e
def max2D : D → D → Option D := intD2 fun i j => some (.int (if j > i then j else i))
def min2D : D → D → Option D := intD2 fun i j => some (.int (if j < i then j else i))
theorem rc_max2 : RC2 K (fun xs H Q => ∃ i j, xs = [V.int i, V.int j] ∧ Q (.int (if j > i then j else i)) H) max2D := by
  intro x y dx dy z H G Q hx hy hs e q
  unfold max2D intD2 at e
  split at e
  · cases e; cases hx; cases hy; exact ⟨_, _, rfl, q _ H G (Gr.refl hs) (.int _)⟩
  · cases e
/-! ### repr -/
def reprD (d : D) : Option D := if d.showable = true ∧ d.shown.length ≤ 1000000 ∧ d.depth ≤ 50 then some (.str d.shown) else none
def rRepr (K : PySem.W.Frag) : List V → Hp → VK → Prop := fun xs H Q => ∃ v d, xs = [v] ∧ Da K H v d ∧ d.showable = true ∧ d.shown.length ≤ sizeLine ∧ d.depth ≤ 50 ∧ Q (.str d.shown) H
theorem call_repr (hy : Sys X) (hu : X.A.units + 64 < cLine) (gu : X.A.guards = some []) : CallR X (.builtin "repr") (rRepr X.K) := by
  intro pins s σ H xs us Q I r ⟨v, d, e, hd, h1, h2, h3, q⟩
  subst e
  obtain ⟨u, rfl, rv⟩ := r.one
  obtain ⟨as, hr, hn⟩ := Da.reads hy I d v u hd (hd.okS h1) rv
  have fin : ∀ (h' : Heap) (t : Tok) (tk : Nat), (∀ b o, s.heap.get? b = some o → h'.get? b = some o) → EP X pins σ Q (.str d.shown t) { s with heap := h', toks := tk } := fun h' t tk hk => ⟨.str _, H, I.kept hk, ⟨t, rfl⟩, q⟩
  have same : ∀ (t : Tok) (tk : Nat), EP X pins σ Q (.str d.shown t) { s with toks := tk } := fun t tk => ⟨.str _, H, I.tok tk, ⟨t, rfl⟩, q⟩
  cases u with
  | none =>
    cases hr
    have := same s.toks (s.toks + 1)
    simp only [PyData.shown] at this
    exact P.repr_of_none this
  | bool b =>
    cases hr
    have := same s.toks (s.toks + 1)
    simp only [PyData.shown] at this
    exact P.repr_of_bool this
  | int i t =>
    cases hr
    have := same s.toks (s.toks + 1)
    simp only [PyData.shown] at this
    exact P.repr_of_int (by simpa [PyData.showable] using h1) this
  | str x t =>
    cases hr
    have := same s.toks (s.toks + 1)
    simp only [PyData.shown] at this h2
    exact P.repr_of_str this h2
  | ref a => exact repr_of_reads' hr h1 (fun _ => hn) gu (by omega) (fun _ _ e => e) (fun h' u tk hk => fin h' u tk hk) h2
  | _ => cases hr
theorem rc_repr : RC1 K (rRepr K) reprD := by
  intro x dx z H G Q hx hs e q
  unfold reprD at e
  split at e
  · rename_i h
    cases e
    exact ⟨x, dx, rfl, hx.toH hs (hx.okS h.1), h.1, le_line h.2.1, h.2.2, q _ H G (Gr.refl hs) (.str _)⟩
  · cases e
/-! ### isinstance of a built-in class -/
def typeN : D → String
  | .none => "NoneType"
  | .bool _ => "bool"
  | .int _ => "int"
  | .str _ => "str"
  | .list _ => "list"
  | .tuple _ => "tuple"
  | .dict _ => "dict"
def isiB (T : String) (d : D) : Bool := typeN d == T || (typeN d == "bool" && T == "int")
def isRf : D → Bool
  | .dict ((.none, _) :: _) => true
  | .dict ((.bool _, _) :: _) => true
  | _ => false
def isRl : D → Bool
  | .dict ((.bool false, _) :: _) => true
  | _ => false
/-- .. or a dict of the world -/
def TyD (K : PySem.W.Frag) (H : Hp) (v : V) (t : Value) : Prop := TyX K H v t ∨ (t = .type "dict" ∧ ∃ a xs, v = .ref a ∧ H a = some (dicO a xs))
theorem Da.ty {B : Bs} {H G : Hp} {n : Wd} {v : V} {d : D} (fm : Fm K B H G n) (h : Da K G v d) : (TyX K H v (.type (typeN d)) ∧ isRf d = false) ∨ (isRl d = true ∧ typeN d = "dict" ∧ TyX K H v (.type "list")) ∨ (isRl d = false ∧ typeN d = "dict" ∧ ∃ c C, ClsOk K c C ∧ TyX K H v (.ref C)) ∨ (isRl d = false ∧ isRf d = true ∧ typeN d = "dict" ∧ TyD K H v (.type "dict")) := by
  cases h with
  | non => exact .inl ⟨.base .non, rfl⟩
  | bl b => exact .inl ⟨.base (.bl b), rfl⟩
  | int i => exact .inl ⟨.base (.int i), rfl⟩
  | str x => exact .inl ⟨.base (.str x), rfl⟩
  | lst e _ => exact .inl ⟨.base (.lst (fm.sub.h _ _ e rfl)), rfl⟩
  | tup e _ =>
    refine .inl ⟨?_, rfl⟩
    rcases sameT fm.sub e with (e | ⟨o, e⟩) | ⟨o, its, n, hk, hc, _⟩
    · exact .base (.tup e)
    · exact .fTuple e
    · exact .kTuple hk hc
  | @dct a kvs e _ =>
    refine .inl ⟨.base (.dK (fm.sub.h _ _ e rfl)), ?_⟩
    cases kvs with
    | nil => rfl
    | cons p r =>
      obtain ⟨k, v⟩ := p
      cases k <;> rfl
  | obj e =>
    obtain ⟨c, _, h⟩ := fm.obs.at_ _ _ _ e rfl
    cases c with
    | ins c fs =>
      obtain ⟨_, C, dx, vs, ck, h, _⟩ := h
      exact .inr (.inr (.inl ⟨rfl, rfl, c, C, ck, .base (.ins h ck.cl ck.ha ck.hn ck.ht ck.hm)⟩))
    | lst ds =>
      have := h.1
      rw [e] at this
      cases this
    | dic kvs =>
      obtain ⟨_, xs, h, _⟩ := h
      exact .inr (.inr (.inr ⟨rfl, rfl, rfl, .inr ⟨rfl, _, xs, rfl, h⟩⟩))
    | tab P q =>
      have := h.1
      rw [e] at this
      cases this
  | cel e =>
    obtain ⟨c, _, h⟩ := fm.obs.at_ _ _ _ e rfl
    cases c with
    | ins c fs =>
      have := h.1
      rw [e] at this
      cases this
    | lst ds =>
      obtain ⟨_, xs, h, _⟩ := h
      exact .inr (.inl ⟨rfl, rfl, .base (.lst h)⟩)
    | dic kvs =>
      have := h.1
      rw [e] at this
      cases this
    | tab P q =>
      have z := h.1
      rw [e] at z
      have w := Option.some.inj z
      injection w with w1 w2
      rw [w1] at w2
      exact absurd w2 (Nat.ne_of_lt (Nat.lt_succ_self _))
  | fin e ck _ _ => exact .inr (.inr (.inl ⟨rfl, rfl, _, _, ck, .base (.ins (fm.sub.h _ _ e rfl) ck.cl ck.ha ck.hn ck.ht ck.hm)⟩))
variable {m : Type → Type} [Mo m] {EX : XR} {g : List Sl}
/-! ### slices -/
def cutD (ds : List D) (lo hi : Option Int) : List D := (ds.drop (HT.sIx ds.length 0 lo)).take (HT.sIx ds.length ds.length hi - HT.sIx ds.length 0 lo)
theorem DaAll.cut {G : Hp} {vs : List V} {ds : List D} (h : DaAll K G vs ds) (lo hi : Option Int) : DaAll K G (cutV vs lo hi) (cutD ds lo hi) := by
  unfold cutV cutD
  rw [h.length]
  exact (h.drop _).take _
def sliceD (d : D) (lo hi : Option Int) : Option D := match d with
  | .list ds => some (.list (cutD ds lo hi))
  | .tuple ds => some (.tuple (cutD ds lo hi))
  | _ => none
def oint : D → Option (Option Int)
  | .int i => some (some i)
  | _ => none
theorem sl_or {r q : V → Option Int → Option Int → Hp → VK → Prop} (a : SlR X r) (b : SlR X q) : SlR X (fun x l u H Q => r x l u H Q ∨ q x l u H Q) := by
  intro pins s σ H x v vl vu l u sl Q I rx hs pl pu h
  rcases h with h | h
  · exact a pins s σ H x v vl vu l u sl Q I rx hs pl pu h
  · exact b pins s σ H x v vl vu l u sl Q I rx hs pl pu h
theorem whole_cut {α : Type} {xs : List α} {lo hi : Option Int} (h : HT.sIx xs.length 0 lo = 0 ∧ HT.sIx xs.length xs.length hi = xs.length) : (xs.drop (HT.sIx xs.length 0 lo)).take (HT.sIx xs.length xs.length hi - HT.sIx xs.length 0 lo) = xs := by
  rw [h.1, h.2]
  simp
theorem sl_data {x : V} {d z : D} {H G : Hp} {lo hi : Option Int} {Q : VK} (hx : Da K G x d) (hs : SubM G H) (e : sliceD d lo hi = some z) (q : ∀ v H' G', Gr H G H' G' → Da K G' v z → Q v H') : rSlL K x lo hi H Q ∨ rSlA K x lo hi H Q := by
  unfold sliceD at e
  split at e
  · cases e
    obtain ⟨a, xs, rfl, ha, da⟩ := hx.toL
    refine .inl ⟨a, xs, rfl, .of (hs.h _ _ ha rfl), fun p hp => ?_⟩
    have gr := Gr.alloc (u := .lst (cutV xs lo hi)) hs hp
    exact q _ _ _ gr (.lst upd_same ((da.cut lo hi).mono gr.g))
  · cases e
    obtain ⟨a, xs, rfl, ha, da⟩ := hx.toT
    refine .inr ⟨a, xs, rfl, sameT hs ha, fun hw => ?_, fun hw p hp => ?_⟩
    · rw [da.length] at hw
      have : cutD _ lo hi = _ := whole_cut hw
      rw [this] at q
      exact q _ H G (Gr.refl hs) (.tup ha da)
    · have gr := Gr.alloc (u := .tup (cutV xs lo hi)) hs hp
      exact q _ _ _ gr (.tup (.inl (.inl upd_same)) ((da.cut lo hi).mono gr.g))
  · cases e
def toJ (X : Cx) (EX : XR) (g : List Sl) (x : m (Option Int)) : TO := fun σ H Q => ∃ B G n φ ξ, Ok X.K B g σ H G n ∧ Mo.sat x n φ ξ ∧ (∀ d H' G' n', Ok X.K B g σ H' G' n' → Same G G' → φ d n' → Q d H') ∧ Xw X B EX ξ
/-- a part of a slice -/
def OJ (X : Cx) (EX : XR) (e : Option Expr) (g : List Sl) (x : m (Option Int)) : Prop := PO X e (toJ X EX g x)
theorem _root_.L2.PO.weak {X : Cx} {e : Option Expr} {t t' : TO} (h : PO X e t) (w : ∀ σ H Q, t' σ H Q → t σ H Q) : PO X e t' := ⟨fun pins s σ H Q I q => h.run pins s σ H Q I (w _ _ _ q)⟩
theorem oj_none : OJ (m := m) X EX none g (pure none) := po_none.weak fun σ H Q ⟨B, G, n, φ, ξ, o, s, q, _⟩ => q none H G n o (Same.refl _) (Mo.sat_pure s)
theorem oj_some {e : Expr} {x : m D} (h : EJ X EX e g x) : OJ X EX (some e) g (x >>= fun d => Mo.lift (oint d)) :=
  (po_some h).weak fun σ H Q ⟨B, G, n, φ, ξ, o, s, q, xw⟩ => te_one o s (fun v H1 G1 d n1 o1 g1 d1 s1 => by
    obtain ⟨w, ew, pw⟩ := Mo.sat_lift s1
    cases d with
    | int i => cases ew; exact ⟨i, d1.toI, q _ H1 G1 n1 o1 g1 pw⟩
    | _ => cases ew) xw
theorem ej_slice {a : Expr} {lo hi : Option Expr} {pos p2 : Pos} {x : m D} {y z : m (Option Int)} (ha : EJ X EX a g x) (hb : OJ X EX lo g y) (hc : OJ X EX hi g z) : EJ X EX (.Subscript a (.Slice lo hi none p2) pos) g (x >>= fun d => y >>= fun l => z >>= fun h => Mo.lift (sliceD d l h)) :=
  (pe_slice (sl_or sl_list sl_tupA) ha hb hc).weak fun σ H Q ⟨B, G, n, φ, ξ, o, s, q, xw⟩ => te_one o s (fun v H1 G1 d n1 o1 g1 d1 s1 => ⟨B, G1, n1, _, ξ, o1, Mo.sat_bind s1, fun l H2 G2 n2 o2 g2 s2 => ⟨B, G2, n2, _, ξ, o2, Mo.sat_bind s2, fun h H3 G3 n3 o3 g3 s3 => by
    obtain ⟨w, ew, pw⟩ := Mo.sat_lift s3
    exact sl_data ((d1.mono g2).mono g3) o3.fm.sub ew fun u H4 G4 gr du => q u H4 G4 w n3 (o3.gr gr) (((g1.trans g2).trans g3).trans gr.g) du pw, xw⟩, xw⟩) xw
end
end DD
namespace DD
open PySem PySem.Spec PyProof.Rows
theorem forIn_wp {α β : Type} {M : Model} {A : Around} {E : Value → Shared → Prop} {Q : β → Shared → Prop} {b : α → β → Sem (ForInStep β)} (P : Nat → β → Shared → Prop) : ∀ (l : List α) (j : Nat) (r : β) (s : Shared), P j r s →
    (∀ i x r s, l[i]? = some x → P (j + i) r s → wpAny M A (b x r) (fun st s' => ∃ r', st = .yield r' ∧ P (j + i + 1) r' s') E s) → (∀ r s, P (j + l.length) r s → Q r s) → wpAny M A (forIn l r b) Q E s
  | [], j, r, s, h, _, hq => by
    simp only [List.forIn_nil]
    exact wpAny_pure (hq r s h)
  | x :: l, j, r, s, h, hs, hq => by
    simp only [List.forIn_cons]
    refine wpAny_bind (wpAny_mono (hs 0 x r s rfl h) (fun st s' ⟨r', e, p⟩ => ?_) fun _ _ z => z)
    subst e
    refine forIn_wp P l (j + 1) r' s' p (fun i y r2 s2 e p2 => ?_) fun r2 s2 p2 => hq r2 s2 (by rw [List.length_cons, show j + (l.length + 1) = j + 1 + l.length by omega]; exact p2)
    have := hs (i + 1) y r2 s2 (by simpa using e) (by rw [show j + (i + 1) = j + 1 + i by omega]; exact p2)
    rw [show j + (i + 1) + 1 = j + 1 + i + 1 by omega] at this
    exact this
/-! a list or a tuple, by its kind -/
def SqOf (k : Bool) (h : Heap) (l : Addr) (items : Array Value) : Prop := if k = true then h.IsList l items else h.IsTuple l items
def SqIter (k : Bool) (h : Heap) (a l : Addr) (i : Nat) : Prop := if k = true then h.IsListIter a l i else h.IsTupleIter a l i
section
variable {k : Bool} {h h' : Heap} {a l b : Addr} {i : Nat} {items : Array Value}
theorem SqOf.at (x : SqOf k h l items) (e : ∀ o, h.get? l = some o → h'.get? l = some o) : SqOf k h' l items := by
  cases k
  · obtain ⟨o, ho, r⟩ := (show h.IsTuple l items from x)
    exact (show h'.IsTuple l items from ⟨o, e o ho, r⟩)
  · obtain ⟨o, ho, r⟩ := (show h.IsList l items from x)
    exact (show h'.IsList l items from ⟨o, e o ho, r⟩)
theorem SqIter.at (x : SqIter k h a l i) (e : ∀ o, h.get? a = some o → h'.get? a = some o) : SqIter k h' a l i := by
  cases k
  · obtain ⟨o, ho, r⟩ := (show h.IsTupleIter a l i from x)
    exact (show h'.IsTupleIter a l i from ⟨o, e o ho, r⟩)
  · obtain ⟨o, ho, r⟩ := (show h.IsListIter a l i from x)
    exact (show h'.IsListIter a l i from ⟨o, e o ho, r⟩)
theorem SqOf.extBut (x : SqOf k h l items) (hs : Heap.ExtBut b h h') (hb : l ≠ b) : SqOf k h' l items := x.at fun o e => hs l o hb e
theorem SqIter.extBut (x : SqIter k h a l i) (hs : Heap.ExtBut b h h') (hb : a ≠ b) : SqIter k h' a l i := x.at fun o e => hs a o hb e
theorem SqIter.ex (x : SqIter k h a l i) : ∃ o, h.get? a = some o ∧ True ∧ o.data = .fields #[.ref l, .int i 0] := by
  cases k
  · obtain ⟨o, ho, _, r⟩ := (show h.IsTupleIter a l i from x)
    exact ⟨o, ho, trivial, r⟩
  · obtain ⟨o, ho, _, r⟩ := (show h.IsListIter a l i from x)
    exact ⟨o, ho, trivial, r⟩
end
section
variable {prog : Program} {w : World} {A : Around} {E : Value → Shared → Prop} {s : Shared} {k : Bool}
theorem sq_item {it l : Addr} {i : Nat} {items} {x : Value} {Q : Value → Shared → Prop} (hit : SqIter k s.heap it l i) (hl : SqOf k s.heap l items) (hx : items[i]? = some x) (hQ : ∀ h', SqIter k h' it l (i + 1) → Heap.SameBut it s.heap h' → Q x { s with heap := h' }) : wpAny (model prog w) A (Builtin.SmallTypes.nextOf (.ref it)) Q E s := by
  cases k
  · exact RZ.nextOf_tuple_item hit hl hx hQ
  · exact wpAny_nextOf_list_item hit hl hx hQ
theorem sq_end {it l : Addr} {i : Nat} {items} {Q : Value → Shared → Prop} (hh : A.handled = none) (hit : SqIter k s.heap it l i) (hl : SqOf k s.heap l items) (hx : items[i]? = none) (hE : ∀ h' e, Heap.ExtBut it s.heap h' → (∃ o, h'.get? e = some o ∧ o.cls = .type "StopIteration") → E (.ref e) { s with heap := h' }) : wpAny (model prog w) A (Builtin.SmallTypes.nextOf (.ref it)) Q E s := by
  cases k
  · exact RZ.nextOf_tuple_end hh hit hl hx hE
  · exact wpAny_nextOf_list_end hh hit hl hx hE
theorem sq_pyIter {l : Addr} {items} {Q : Value → Shared → Prop} (hl : SqOf k s.heap l items) (hQ : ∀ o : Obj, SqIter k (s.heap.push o) s.heap.objs.size l 0 → Q (.ref s.heap.objs.size) { s with heap := s.heap.push o }) : wpAny (model prog w) A (pyIter (.ref l)) Q E s := by
  cases k
  · exact wpAny_pyIter_tuple hl (hQ _ ⟨_, Heap.get?_push_size _ rfl, rfl, rfl⟩)
  · exact wpAny_pyIter_list hl (hQ _ ⟨_, Heap.get?_push_size _ rfl, rfl, rfl⟩)
end
def ZObj (f0 f1 : Value) (TI TO : Addr) : Obj := { cls := .type "zip", dict := none, data := .fields #[f0, f1, .bool false, .ref TI, .ref TO], slots := #[] }
/-- the zip at z, its iterators its over the tuples ls, each at turn i -/
structure ZSt (kd : Nat → Bool) (h : Heap) (z TI TO : Addr) (its ls : List Addr) (i : Nat) : Prop where
  zo : ∃ f0 f1, h.get? z = some (ZObj f0 f1 TI TO) ∧ (f0 = .none ∨ ∃ a : Int, f0 = rawInt a)
  ti : h.get? TI = some { cls := .type "tuple", data := .seq (its.map Value.ref).toArray }
  to : ∃ kept k, h.get? TO = some { cls := .type "tuple", data := .seq kept k } ∧ kept.size = its.length
  it : ∀ (t : Nat) (a l : Addr), its[t]? = some a → ls[t]? = some l → SqIter (kd t) h a l i
structure ZAp (z TI TO : Addr) (its ls : List Addr) : Prop where
  ne : its ≠ []
  len : ls.length = its.length
  few : its.length ≤ 1000
  nd : (z :: TI :: TO :: its).Nodup
  old : ∀ l ∈ ls, l ∉ z :: TI :: TO :: its
section
variable {prog : Program} {w : World} {A : Around} {E : Value → Shared → Prop} {s : Shared} {kd : Nat → Bool}
theorem ZAp.TIz {z TI TO : Addr} {its ls : List Addr} (D : ZAp z TI TO its ls) : TI ≠ z := fun e => by
  have := D.nd; subst e; simp at this
theorem ZAp.TOz {z TI TO : Addr} {its ls : List Addr} (D : ZAp z TI TO its ls) : TO ≠ z := fun e => by
  have := D.nd; subst e; simp at this
theorem ZAp.TITO {z TI TO : Addr} {its ls : List Addr} (D : ZAp z TI TO its ls) : TI ≠ TO := fun e => by
  have := D.nd; subst e; simp at this
theorem ZAp.itz {z TI TO a : Addr} {its ls : List Addr} (D : ZAp z TI TO its ls) (h : a ∈ its) : a ≠ z ∧ a ≠ TI ∧ a ≠ TO := by
  have := D.nd
  refine ⟨?_, ?_, ?_⟩ <;> (rintro rfl; simp_all)
theorem ZAp.inj {z TI TO a : Addr} {its ls : List Addr} {t u : Nat} (D : ZAp z TI TO its ls) (h : its[t]? = some a) (h' : its[u]? = some a) : t = u := by
  have nd : its.Nodup := ((D.nd.sublist (List.sublist_cons_self ..)).sublist (List.sublist_cons_self ..)).sublist (List.sublist_cons_self ..)
  exact L2.nd_ix nd h h'
theorem wpAny_alive {M : Model} {a : Addr} {Q : Option Obj → Shared → Prop} (h : Q (s.heap.get? a) s) : wpAny M A (loadIfAlive a) Q E s := fun Γ p _ => by
  unfold loadIfAlive
  rw [Sem.wp_loadIfAlive]
  exact (wpAny_pure (M := M) (A := A) (E := E) h) Γ p (by assumption)
theorem zipN_free {z TI TO : Addr} {its ls : List Addr} {i : Nat} {f1 : Value} {xs : List Value} {Q : Value → Shared → Prop} (D : ZAp z TI TO its ls) {f0 : Value} (hz : s.heap.get? z = some (ZObj f0 f1 TI TO)) (hf0 : f0 = .none ∨ ∃ a : Int, f0 = rawInt a ∧ s.heap.get? a.toNat = none) (S : ZSt kd s.heap z TI TO its ls i)
    (hl : xs.length = its.length) (hx : ∀ (t : Nat) (l : Addr) (x : Value), ls[t]? = some l → xs[t]? = some x → ∃ items, SqOf (kd t) s.heap l items ∧ items[i]? = some x)
    (hQ : ∀ h', ZSt kd h' z TI TO its ls (i + 1) → (h'.get? z = some (ZObj (rawInt s.heap.objs.size) (.bool false) TI TO)) → h'.get? s.heap.objs.size = some { cls := .type "tuple", data := .seq xs.toArray } → h'.objs.size = s.heap.objs.size + 1 →
      (∀ c o, c ∉ z :: TO :: its → s.heap.get? c = some o → h'.get? c = some o) → Q (.ref s.heap.objs.size) { s with heap := h' }) :
    wpAny (model prog w) A (Builtin.«zip.__next__» ⟨[.ref z], []⟩) (fun fin s' => ∃ v, fin = .done (.ret v) ∧ Q v s') E s := by
  obtain ⟨kept, k0, hTO, hks⟩ := S.to
  have hTI := S.ti
  show wpAny _ _ (field (.ref z) 2 >>= _) _ _ _
  refine wpAny_bind (wpAny_field hz rfl (x := .bool false) rfl ?_)
  show wpAny _ _ (field (.ref z) 3 >>= _) _ _ _
  refine wpAny_bind (wpAny_field hz rfl (x := .ref TI) rfl ?_)
  refine wpAny_bind (wpAny_seqItems hTI rfl ?_)
  have he : (its.map Value.ref).toArray.isEmpty = false := by have := D.ne; cases its <;> simp_all
  simp only [he]
  refine wpAny_bind ?_
  have isfree : ∀ {R : Bool → Shared → Prop}, R true s → wpAny (model prog w) A (Builtin.SmallTypes.ownedTupleIsFree (.ref z)) R E s := fun {R} hR => by
    unfold Builtin.SmallTypes.ownedTupleIsFree
    refine wpAny_bind (wpAny_field hz rfl (x := f0) rfl ?_)
    rcases hf0 with rfl | ⟨a, rfl, ha⟩
    · exact wpAny_pure hR
    · refine wpAny_bind (wpAny_alive ?_)
      rw [ha]
      exact wpAny_pure hR
  refine isfree ?_
  simp only [if_true]
  refine wpAny_bind (wpAny_rule ?_)
  refine wpAny_bind (wpAny_field hz rfl (x := .ref TO) rfl ?_)
  refine wpAny_bind (wpAny_setField_rec hz (by simp) fun h₁ hz₁ hs₁ => ?_)
  replace hz₁ : h₁.get? z = some (ZObj .ellipsis f1 TI TO) := hz₁
  have up1 : ∀ c o, c ≠ z → s.heap.get? c = some o → h₁.get? c = some o := fun c o hc e => (hs₁.2 c hc).trans e
  refine wpAny_bind (forIn_wp (fun j r s' => r = (none, ()) ∧ ∃ h kj kk, s' = { s with heap := h } ∧ h.get? z = some (ZObj .ellipsis f1 TI TO) ∧ h.get? TO = some { cls := .type "tuple", data := .seq kj kk } ∧ kj.size = its.length ∧ (∀ t : Nat, t < j → kj[t]? = xs[t]?) ∧
      (∀ (t : Nat) (a l : Addr), its[t]? = some a → ls[t]? = some l → SqIter (kd t) h a l (if t < j then i + 1 else i)) ∧ h.objs.size = s.heap.objs.size ∧ (∀ c o, c ∉ z :: TO :: its → s.heap.get? c = some o → h.get? c = some o)) _ 0 _ _
    ⟨rfl, h₁, kept, k0, rfl, hz₁, up1 _ _ D.TOz hTO, hks, fun t ht => absurd ht (Nat.not_lt_zero _), fun t a l e1 e2 => (S.it t a l e1 e2).extBut hs₁.extBut (D.itz (List.mem_of_getElem? e1)).1, hs₁.1, fun c o hc e => up1 c o (fun z => hc (by simp [z])) e⟩ (fun j p r s' e hp => ?_) fun r s' hp => ?_)
  · obtain ⟨rfl, h, kj, kk, rfl, hz2, hTO2, hk2, hpre, hit, hsz, hold⟩ := hp
    rw [Nat.zero_add] at *
    obtain ⟨a, ea⟩ : ∃ a, its[j]? = some a ∧ p = (Value.ref a, j) := by
      rw [List.getElem?_zipIdx, List.getElem?_map] at e
      cases hj : its[j]? with
      | none => rw [hj] at e; cases e
      | some a => rw [hj] at e; cases e; exact ⟨a, rfl, by simp⟩
    obtain ⟨ea, rfl⟩ := ea
    have hjl : j < its.length := (List.getElem?_eq_some_iff.mp ea).1
    obtain ⟨l, el⟩ : ∃ l, ls[j]? = some l := ⟨ls[j]'(by rw [D.len]; exact hjl), by simp [D.len, hjl]⟩
    obtain ⟨x, ex⟩ : ∃ x, xs[j]? = some x := ⟨xs[j]'(by rw [hl]; exact hjl), by simp [hl, hjl]⟩
    obtain ⟨items, ht, hix⟩ := hx j l x el ex
    have hlo : l ∉ z :: TI :: TO :: its := D.old l (List.mem_of_getElem? el)
    have ht2 : SqOf (kd j) h l items := ht.at fun o e => hold l o (fun hm => hlo (by
      simp only [List.mem_cons] at hm ⊢
      rcases hm with h | h | h
      · exact .inl h
      · exact .inr (.inr (.inl h))
      · exact .inr (.inr (.inr h)))) e
    have hi2 := hit j a l ea el
    rw [if_neg (Nat.lt_irrefl _)] at hi2
    have am := D.itz (List.mem_of_getElem? ea)
    refine wpAny_bind (wpAny_onRaise ?_)
    show wpAny _ _ (Builtin.SmallTypes.nextOf (.ref a) >>= _) _ _ _
    refine wpAny_bind (sq_item hi2 ht2 hix fun h₂ hi3 hs₂ => wpAny_pure ?_)
    have hTO3 : h₂.get? TO = some { cls := .type "tuple", data := .seq kj kk } := (hs₂.2 TO (Ne.symm am.2.2)).trans hTO2
    refine wpAny_bind (wpAny_seqItems hTO3 rfl ?_)
    have hfew := D.few
    have line : (1000 : Nat) ≤ sizeLine := by decide
    refine wpAny_bind (wpAny_updateSeq hTO3 rfl ?_ (by rw [hk2]; omega) (by rw [Array.size_setIfInBounds, hk2]; omega))
    refine wpAny_bind (wpAny_letGo (wpAny_pure ⟨_, rfl, rfl, _, _, _, rfl, ?_, Heap.get?_update_self _ hTO3 rfl, ?_, ?_, ?_, ?_, ?_⟩))
    · rw [Heap.get?_update_other _ _ D.TOz, hs₂.2 z am.1.symm]; exact hz2
    · simp [hk2]
    · intro t ht
      show (kj.setIfInBounds j x)[t]? = _
      by_cases htj : t = j
      · subst htj
        rw [Array.getElem?_setIfInBounds_self_of_lt (by rw [hk2]; exact hjl)]
        exact ex.symm
      · rw [Array.getElem?_setIfInBounds_ne (Ne.symm htj)]
        exact hpre t (by omega)
    · intro t a' l' e1 e2
      have am' := D.itz (List.mem_of_getElem? e1)
      by_cases htj : t = j
      · subst htj
        rw [ea] at e1; cases e1
        rw [el] at e2; cases e2
        rw [if_pos (Nat.lt_succ_self _)]
        exact hi3.at fun o e => (Heap.get?_update_other _ _ am'.2.2.symm).trans e
      · have hne : a' ≠ a := fun z => htj (D.inj e1 (z ▸ ea))
        have := hit t a' l' e1 e2
        have ei : (if t < j + 1 then i + 1 else i) = (if t < j then i + 1 else i) := by split <;> split <;> omega
        rw [ei]
        exact this.at fun o e => (Heap.get?_update_other _ _ am'.2.2.symm).trans ((hs₂.2 a' hne).trans e)
    · rw [show ∀ hh : Heap, (hh.update TO (Obj.mapSeq fun b => b.setIfInBounds j x)).objs.size = hh.objs.size from fun _ => by simp [Heap.update], hs₂.1]; exact hsz
    · intro c o hc e
      have h1 : c ≠ TO := fun z => hc (by simp [z])
      have h2 : c ≠ a := fun z => hc (by subst z; exact List.mem_cons_of_mem _ (List.mem_cons_of_mem _ (List.mem_of_getElem? ea)))
      exact (Heap.get?_update_other _ _ h1.symm).trans ((hs₂.2 c h2).trans (hold c o hc e))
  · obtain ⟨rfl, h, kj, kk, rfl, hz2, hTO2, hk2, hpre, hit, hsz, hold⟩ := hp
    rw [Nat.zero_add, List.length_zipIdx, List.length_map] at hpre
    have hkx : kj = xs.toArray := by
      apply Array.ext_getElem?
      intro t
      by_cases ht : t < its.length
      · rw [hpre t ht]; simp
      · rw [Array.getElem?_eq_none (by omega), Array.getElem?_eq_none (by simp; omega)]
    subst hkx
    refine wpAny_bind (wpAny_seqItems hTO2 rfl ?_)
    refine wpAny_bind (wpAny_newTuple ?_ (by have := D.few; have line : (1000 : Nat) ≤ sizeLine := (by decide); simp at hk2 ⊢; omega))
    have hit' : ∀ (t : Nat) (a l : Addr), its[t]? = some a → ls[t]? = some l → SqIter (kd t) h a l (i + 1) := fun t a l e1 e2 => by
      have := hit t a l e1 e2
      rw [if_pos (by rw [Nat.zero_add, List.length_zipIdx, List.length_map]; exact (List.getElem?_eq_some_iff.mp e1).1)] at this
      exact this
    have zlt : z < h.objs.size := Heap.lt_size hz2
    refine wpAny_bind ?_
    unfold Builtin.SmallTypes.ownedTupleHandOut
    have hz3 : (h.push { cls := .type "tuple", data := .seq xs.toArray }).get? z = some (ZObj .ellipsis f1 TI TO) := Heap.get?_push_of_some _ hz2
    refine wpAny_bind (wpAny_setField_rec hz3 (by simp) fun h₇ hz₇ hs₇ => ?_)
    replace hz₇ : h₇.get? z = some (ZObj (rawInt h.objs.size) f1 TI TO) := hz₇
    refine wpAny_setField_rec hz₇ (by simp) fun h₈ hz₈ hs₈ => ?_
    replace hz₈ : h₈.get? z = some (ZObj (rawInt h.objs.size) (.bool false) TI TO) := hz₈
    have up : ∀ c o, c ≠ z → h.get? c = some o → h₈.get? c = some o := fun c o c1 e => (hs₈.2 c c1).trans ((hs₇.2 c c1).trans (Heap.get?_push_of_some _ e))
    have hT : h₈.get? h.objs.size = some { cls := .type "tuple", data := .seq xs.toArray } := (hs₈.2 _ (Nat.ne_of_gt zlt)).trans ((hs₇.2 _ (Nat.ne_of_gt zlt)).trans (Heap.get?_push_size _ rfl))
    have hz8 : h₈.objs.size = h.objs.size + 1 := by rw [hs₈.1, hs₇.1, Heap.size_push]
    have hTI2 : h.get? TI = _ := hold TI _ (fun hm => by
      rcases List.mem_cons.mp hm with q | hm
      · exact D.TIz q
      rcases List.mem_cons.mp hm with q | hm
      · exact D.TITO q
      · exact (D.itz hm).2.1 rfl) hTI
    have st : ZSt kd h₈ z TI TO its ls (i + 1) := ⟨⟨_, _, hz₈, .inr ⟨_, rfl⟩⟩, up _ _ D.TIz hTI2, ⟨_, _, up _ _ D.TOz hTO2, hk2⟩, fun t a l e1 e2 => (hit' t a l e1 e2).at fun o e => up _ o (D.itz (List.mem_of_getElem? e1)).1 e⟩
    rw [hsz] at hz₈ hT hz8
    refine wpAny_pure ⟨_, rfl, ?_⟩
    show Q (.ref h.objs.size) _
    rw [hsz]
    exact hQ h₈ st hz₈ hT hz8 fun c o hc e => up c o (fun q => hc (by simp [q])) (hold c o hc e)
theorem zipN_busy {z TI TO : Addr} {its ls : List Addr} {i : Nat} {a0 : Int} {f1 : Value} {xs : List Value} {Q : Value → Shared → Prop} (D : ZAp z TI TO its ls) (hz : s.heap.get? z = some (ZObj (rawInt a0) f1 TI TO)) {oa : Obj} (ha : s.heap.get? a0.toNat = some oa) (S : ZSt kd s.heap z TI TO its ls i)
    (hl : xs.length = its.length) (hx : ∀ (t : Nat) (l : Addr) (x : Value), ls[t]? = some l → xs[t]? = some x → ∃ items, SqOf (kd t) s.heap l items ∧ items[i]? = some x)
    (hQ : ∀ h', ZSt kd h' z TI TO its ls (i + 1) → h'.get? s.heap.objs.size = some { cls := .type "tuple", data := .seq xs.toArray } → h'.objs.size = s.heap.objs.size + 1 →
      (∀ c o, c ∉ z :: TO :: its → s.heap.get? c = some o → h'.get? c = some o) → Q (.ref s.heap.objs.size) { s with heap := h' }) :
    wpAny (model prog w) A (Builtin.«zip.__next__» ⟨[.ref z], []⟩) (fun fin s' => ∃ v, fin = .done (.ret v) ∧ Q v s') E s := by
  obtain ⟨kept, k0, hTO, hks⟩ := S.to
  have hTI := S.ti
  show wpAny _ _ (field (.ref z) 2 >>= _) _ _ _
  refine wpAny_bind (wpAny_field hz rfl (x := .bool false) rfl ?_)
  show wpAny _ _ (field (.ref z) 3 >>= _) _ _ _
  refine wpAny_bind (wpAny_field hz rfl (x := .ref TI) rfl ?_)
  refine wpAny_bind (wpAny_seqItems hTI rfl ?_)
  have he : (its.map Value.ref).toArray.isEmpty = false := by have := D.ne; cases its <;> simp_all
  simp only [he]
  refine wpAny_bind ?_
  have isbusy : ∀ {R : Bool → Shared → Prop}, (∀ h f1', h.get? z = some (ZObj (rawInt a0) f1' TI TO) → Heap.SameBut z s.heap h → R false { s with heap := h }) → wpAny (model prog w) A (Builtin.SmallTypes.ownedTupleIsFree (.ref z)) R E s := fun {R} hR => by
    unfold Builtin.SmallTypes.ownedTupleIsFree
    refine wpAny_bind (wpAny_field hz rfl (x := rawInt a0) rfl ?_)
    refine wpAny_bind (wpAny_alive ?_)
    rw [ha]
    refine wpAny_bind (wpAny_field hz rfl (x := f1) rfl ?_)
    by_cases hf : (f1 != Value.bool true) = true
    · simp only [hf, if_true]
      exact wpAny_bind (wpAny_setField_rec hz (by simp) fun h1 hz1 hs1 => wpAny_pure (hR h1 _ hz1 hs1))
    · simp only [hf]
      exact wpAny_pure (hR s.heap f1 hz (Heap.SameBut.refl _ _))
  refine isbusy fun h₁ f2 hz₁ hs₁ => ?_
  simp only [Bool.false_eq_true, if_false, List.forIn_toArray]
  have up1 : ∀ c o, c ≠ z → s.heap.get? c = some o → h₁.get? c = some o := fun c o hc e => (hs₁.2 c hc).trans e
  refine wpAny_bind (forIn_wp (fun j r s' => r = (none, (xs.take j).toArray) ∧ ∃ h, s' = { s with heap := h } ∧ h.get? z = some (ZObj (rawInt a0) f2 TI TO) ∧
      (∀ (t : Nat) (a l : Addr), its[t]? = some a → ls[t]? = some l → SqIter (kd t) h a l (if t < j then i + 1 else i)) ∧ h.objs.size = s.heap.objs.size ∧ (∀ c o, c ∉ z :: its → s.heap.get? c = some o → h.get? c = some o)) _ 0 _ _
    ⟨by simp, h₁, rfl, hz₁, fun t a l e1 e2 => (S.it t a l e1 e2).extBut hs₁.extBut (D.itz (List.mem_of_getElem? e1)).1, hs₁.1, fun c o hc e => up1 c o (fun z => hc (by simp [z])) e⟩ (fun j p r s' e hp => ?_) fun r s' hp => ?_)
  · obtain ⟨rfl, h, rfl, hz2, hit, hsz, hold⟩ := hp
    rw [Nat.zero_add] at *
    obtain ⟨a, ea, rfl⟩ : ∃ a, its[j]? = some a ∧ p = Value.ref a := by
      rw [List.getElem?_map] at e
      cases hj : its[j]? with
      | none => rw [hj] at e; cases e
      | some a => rw [hj] at e; cases e; exact ⟨a, rfl, rfl⟩
    have hjl : j < its.length := (List.getElem?_eq_some_iff.mp ea).1
    obtain ⟨l, el⟩ : ∃ l, ls[j]? = some l := ⟨ls[j]'(by rw [D.len]; exact hjl), by simp [D.len, hjl]⟩
    obtain ⟨x, ex⟩ : ∃ x, xs[j]? = some x := ⟨xs[j]'(by rw [hl]; exact hjl), by simp [hl, hjl]⟩
    obtain ⟨items, ht, hix⟩ := hx j l x el ex
    have hlo : l ∉ z :: TI :: TO :: its := D.old l (List.mem_of_getElem? el)
    have ht2 : SqOf (kd j) h l items := ht.at fun o e => hold l o (fun hm => hlo (by
      simp only [List.mem_cons] at hm ⊢
      rcases hm with h | h
      · exact .inl h
      · exact .inr (.inr (.inr h)))) e
    have hi2 := hit j a l ea el
    rw [if_neg (Nat.lt_irrefl _)] at hi2
    refine wpAny_bind (wpAny_holding ?_)
    show wpAny _ _ (Builtin.SmallTypes.nextOf (.ref a) >>= _) _ _ _
    refine wpAny_bind (sq_item hi2 ht2 hix fun h₂ hi3 hs₂ => wpAny_pure ?_)
    refine wpAny_pure ⟨_, rfl, ?_, h₂, rfl, ?_, ?_, ?_, ?_⟩
    · show (none, (xs.take j).toArray.push x) = _
      rw [List.take_add_one, ex]
      simp
    · rw [hs₂.2 z (D.itz (List.mem_of_getElem? ea)).1.symm]; exact hz2
    · intro t a' l' e1 e2
      by_cases htj : t = j
      · subst htj
        rw [ea] at e1; cases e1
        rw [el] at e2; cases e2
        rw [if_pos (Nat.lt_succ_self _)]
        exact hi3
      · have hne : a' ≠ a := fun z => htj (D.inj e1 (z ▸ ea))
        have := hit t a' l' e1 e2
        have ei : (if t < j + 1 then i + 1 else i) = (if t < j then i + 1 else i) := by split <;> split <;> omega
        rw [ei]
        exact this.at fun o e => (hs₂.2 a' hne).trans e
    · rw [hs₂.1]; exact hsz
    · intro c o hc e
      exact (hs₂.2 c (fun z => hc (by subst z; exact List.mem_cons_of_mem _ (List.mem_of_getElem? ea)))).trans (hold c o hc e)
  · obtain ⟨rfl, h, rfl, hz2, hit, hsz, hold⟩ := hp
    have hlen : 0 + (its.map Value.ref).length = xs.length := by rw [Nat.zero_add, List.length_map, hl]
    rw [hlen, List.take_length]
    have few := D.few
    have line : (1000 : Nat) ≤ sizeLine := by decide
    refine wpAny_bind (wpAny_newTuple ?_ (by simp; omega))
    have hit' : ∀ (t : Nat) (a l : Addr), its[t]? = some a → ls[t]? = some l → SqIter (kd t) h a l (i + 1) := fun t a l e1 e2 => by
      have := hit t a l e1 e2
      rw [if_pos (by rw [hlen, hl]; exact (List.getElem?_eq_some_iff.mp e1).1)] at this
      exact this
    have notin : ∀ c, (c = TI ∨ c = TO) → c ∉ z :: its := fun c hc hm => by
      rcases List.mem_cons.mp hm with q | hm
      · rcases hc with rfl | rfl
        · exact D.TIz q
        · exact D.TOz q
      · rcases hc with rfl | rfl
        · exact (D.itz hm).2.1 rfl
        · exact (D.itz hm).2.2 rfl
    have st : ZSt kd (h.push { cls := .type "tuple", data := .seq xs.toArray }) z TI TO its ls (i + 1) := ⟨⟨_, _, Heap.get?_push_of_some _ hz2, .inr ⟨_, rfl⟩⟩, Heap.get?_push_of_some _ (hold _ _ (notin TI (.inl rfl)) hTI), ⟨_, _, Heap.get?_push_of_some _ (hold _ _ (notin TO (.inr rfl)) hTO), hks⟩,
      fun t a l e1 e2 => (hit' t a l e1 e2).at fun o e => Heap.get?_push_of_some _ e⟩
    refine wpAny_pure ⟨_, rfl, ?_⟩
    show Q (.ref h.objs.size) _
    have hT := Heap.get?_push_size h (o := { cls := .type "tuple", data := .seq xs.toArray }) rfl
    have hz8 : (h.push { cls := .type "tuple", data := .seq xs.toArray }).objs.size = h.objs.size + 1 := Heap.size_push ..
    rw [hsz] at hT hz8 ⊢
    exact hQ _ st hT hz8 fun c o hc e => Heap.get?_push_of_some _ (hold c o (fun hm => hc (by
      rcases List.mem_cons.mp hm with q | hm
      · simp [q]
      · exact List.mem_cons_of_mem _ (List.mem_cons_of_mem _ hm))) e)
/-- one item more: the tuple of the i-th items -/
theorem zipN_item {z TI TO : Addr} {its ls : List Addr} {i : Nat} {xs : List Value} {Q : Option Value → Shared → Prop} (D : ZAp z TI TO its ls) (S : ZSt kd s.heap z TI TO its ls i)
    (hl : xs.length = its.length) (hx : ∀ (t : Nat) (l : Addr) (x : Value), ls[t]? = some l → xs[t]? = some x → ∃ items, SqOf (kd t) s.heap l items ∧ items[i]? = some x)
    (hQ : ∀ h', ZSt kd h' z TI TO its ls (i + 1) → h'.get? s.heap.objs.size = some { cls := .type "tuple", data := .seq xs.toArray } → h'.objs.size = s.heap.objs.size + 1 →
      (∀ c o, c ∉ z :: TO :: its → s.heap.get? c = some o → h'.get? c = some o) → Q (some (.ref s.heap.objs.size)) { s with heap := h' }) :
    wpAny (model prog w) A (pyNext (.ref z)) Q E s := by
  obtain ⟨f0, f1, hz, hf⟩ := id S.zo
  have hT : s.TypeIs (.ref z) "zip" := ⟨_, hz, rfl⟩
  unfold pyNext
  refine wpAny_bind (wpAny_attempt (wpAny_callSpecial?_slot (name := Str.ofString "__next__") hT F.slot_zip_next (wpAny_call_entry F.slot_zip_next hT F.entry_zip_next ?_ (F.args_zip_next_1 _))))
  rcases hf with rfl | ⟨a, rfl⟩
  · exact zipN_free D hz (.inl rfl) S hl hx fun h' a1 _ a3 a4 a5 => wpAny_pure (hQ h' a1 a3 a4 a5)
  · cases ea : s.heap.get? a.toNat with
    | none => exact zipN_free D hz (.inr ⟨a, rfl, ea⟩) S hl hx fun h' a1 _ a3 a4 a5 => wpAny_pure (hQ h' a1 a3 a4 a5)
    | some oa => exact zipN_busy D hz ea S hl hx fun h' a1 a3 a4 a5 => wpAny_pure (hQ h' a1 a3 a4 a5)
/-- a turn of the walk over the parts that ends in an error -/
theorem forIn_stop {α β : Type} {M : Model} {Q : β → Shared → Prop} {b : α → β → Sem (ForInStep β)} (P : Nat → β → Shared → Prop) : ∀ (t : Nat) (l : List α) (j : Nat) (r : β) (s : Shared) (x : α), l[t]? = some x → P j r s →
    (∀ i x r s, i < t → l[i]? = some x → P (j + i) r s → wpAny M A (b x r) (fun st s' => ∃ r', st = .yield r' ∧ P (j + i + 1) r' s') E s) → (∀ r s, P (j + t) r s → wpAny M A (b x r) (fun _ _ => False) E s) → wpAny M A (forIn l r b) Q E s
  | _, [], j, r, s, x, hx, _, _, _ => by simp at hx
  | 0, y :: l, j, r, s, x, hx, h, _, hq => by
    simp only [List.forIn_cons]
    obtain rfl : y = x := by simpa using hx
    exact wpAny_bind (wpAny_mono (hq r s h) (fun _ _ z => z.elim) fun _ _ z => z)
  | t + 1, y :: l, j, r, s, x, hx, h, hs, hq => by
    simp only [List.forIn_cons]
    refine wpAny_bind (wpAny_mono (hs 0 y r s (Nat.succ_pos _) rfl h) (fun st s' ⟨r', e, p⟩ => ?_) fun _ _ z => z)
    subst e
    refine forIn_stop P t l (j + 1) r' s' x (by simpa using hx) p (fun i y r2 s2 hi e p2 => ?_) fun r2 s2 p2 => hq r2 s2 (by rw [show j + (t + 1) = j + 1 + t by omega]; exact p2)
    have := hs (i + 1) y r2 s2 (by omega) (by simpa using e) (by rw [show j + (i + 1) = j + 1 + i by omega]; exact p2)
    rw [show j + (i + 1) + 1 = j + 1 + i + 1 by omega] at this
    exact this
/-- the part at place t is at its end, the ones ahead are not -/
theorem zipN_stop {z TI TO a l : Addr} {its ls : List Addr} {i t : Nat} {items : Array Value} {Q : Fin → Shared → Prop} (hh : A.handled = none) (D : ZAp z TI TO its ls) (S : ZSt kd s.heap z TI TO its ls i) (hta : its[t]? = some a) (htl : ls[t]? = some l) (ht : SqOf (kd t) s.heap l items) (hend : items[i]? = none)
    (hx : ∀ (u : Nat) (l : Addr), u < t → ls[u]? = some l → ∃ items x, SqOf (kd u) s.heap l items ∧ items[i]? = some x)
    (hE : ∀ h' e, (∀ c o, c ∉ z :: TO :: its → s.heap.get? c = some o → h'.get? c = some o) → (∃ o, h'.get? e = some o ∧ o.cls = .type "StopIteration") → E (.ref e) { s with heap := h' }) :
    wpAny (model prog w) A (Builtin.«zip.__next__» ⟨[.ref z], []⟩) Q E s := by
  obtain ⟨kept, k0, hTO, hks⟩ := S.to
  obtain ⟨f0, f1, hz, hf⟩ := id S.zo
  have hTI := S.ti
  have am := D.itz (List.mem_of_getElem? hta)
  have notin : ∀ {u : Nat} {l : Addr}, ls[u]? = some l → l ∉ z :: TO :: its := fun {u l} el hm => D.old l (List.mem_of_getElem? el) (by
    simp only [List.mem_cons] at hm ⊢
    rcases hm with h | h | h
    · exact .inl h
    · exact .inr (.inr (.inl h))
    · exact .inr (.inr (.inr h)))
  show wpAny _ _ (field (.ref z) 2 >>= _) _ _ _
  refine wpAny_bind (wpAny_field hz rfl (x := .bool false) rfl ?_)
  show wpAny _ _ (field (.ref z) 3 >>= _) _ _ _
  refine wpAny_bind (wpAny_field hz rfl (x := .ref TI) rfl ?_)
  refine wpAny_bind (wpAny_seqItems hTI rfl ?_)
  have he : (its.map Value.ref).toArray.isEmpty = false := by have := D.ne; cases its <;> simp_all
  simp only [he]
  refine wpAny_bind ?_
  have freeGo : wpAny (model prog w) A (Builtin.SmallTypes.ownedTupleIsFree (.ref z)) (fun b s' => s' = s ∧ b = true ∨ b = false ∧ ∃ h, s' = { s with heap := h } ∧ Heap.SameBut z s.heap h) E s := by
    unfold Builtin.SmallTypes.ownedTupleIsFree
    refine wpAny_bind (wpAny_field hz rfl (x := f0) rfl ?_)
    rcases hf with rfl | ⟨a9, rfl⟩
    · exact wpAny_pure (.inl ⟨rfl, rfl⟩)
    · refine wpAny_bind (wpAny_alive ?_)
      cases ea : s.heap.get? a9.toNat with
      | none => exact wpAny_pure (.inl ⟨rfl, rfl⟩)
      | some oa =>
        refine wpAny_bind (wpAny_field hz rfl (x := f1) rfl ?_)
        by_cases hf : (f1 != Value.bool true) = true
        · simp only [hf, if_true]
          exact wpAny_bind (wpAny_setField_rec hz (by simp) fun h1 hz1 hs1 => wpAny_pure (.inr ⟨rfl, h1, rfl, hs1⟩))
        · simp only [hf]
          exact wpAny_pure (.inr ⟨rfl, s.heap, rfl, Heap.SameBut.refl _ _⟩)
  refine wpAny_mono freeGo (fun b s' hb => ?_) fun _ _ z => z
  have itAt : ∀ {u : Nat} {p : Value × Nat}, (its.map Value.ref).zipIdx[u]? = some p → ∃ a, its[u]? = some a ∧ p = (Value.ref a, u) := fun {u p} e => by
    rw [List.getElem?_zipIdx, List.getElem?_map] at e
    cases hj : its[u]? with
    | none => rw [hj] at e; cases e
    | some a => rw [hj] at e; cases e; exact ⟨a, rfl, by simp⟩
  rcases hb with ⟨rfl, rfl⟩ | ⟨rfl, h₁, rfl, hs₁⟩
  · simp only [if_true]
    refine wpAny_bind (wpAny_rule ?_)
    refine wpAny_bind (wpAny_field hz rfl (x := .ref TO) rfl ?_)
    refine wpAny_bind (wpAny_setField_rec hz (by simp) fun h₁ hz₁ hs₁ => ?_)
    replace hz₁ : h₁.get? z = some (ZObj .ellipsis f1 TI TO) := hz₁
    have up1 : ∀ c o, c ≠ z → s'.heap.get? c = some o → h₁.get? c = some o := fun c o hc e => (hs₁.2 c hc).trans e
    refine wpAny_bind (forIn_stop (fun j r s2 => r = (none, ()) ∧ ∃ h kj kk, s2 = { s' with heap := h } ∧ h.get? z = some (ZObj .ellipsis f1 TI TO) ∧ h.get? TO = some { cls := .type "tuple", data := .seq kj kk } ∧ kj.size = its.length ∧
        (∀ (u : Nat) (a l : Addr), its[u]? = some a → ls[u]? = some l → SqIter (kd u) h a l (if u < j then i + 1 else i)) ∧ (∀ c o, c ∉ z :: TO :: its → s'.heap.get? c = some o → h.get? c = some o)) t _ 0 _ _ (Value.ref a, t)
      (by rw [List.getElem?_zipIdx, List.getElem?_map, hta]; simp) ⟨rfl, h₁, kept, k0, rfl, hz₁, up1 _ _ D.TOz hTO, hks, fun u a l e1 e2 => (S.it u a l e1 e2).extBut hs₁.extBut (D.itz (List.mem_of_getElem? e1)).1, fun c o hc e => up1 c o (fun z => hc (by simp [z])) e⟩ (fun j p r s2 hj e hp => ?_) fun r s2 hp => ?_)
    · obtain ⟨rfl, h, kj, kk, rfl, hz2, hTO2, hk2, hit, hold⟩ := hp
      rw [Nat.zero_add] at *
      obtain ⟨a, ea, rfl⟩ := itAt e
      have hjl : j < its.length := (List.getElem?_eq_some_iff.mp ea).1
      obtain ⟨l, el⟩ : ∃ l, ls[j]? = some l := ⟨ls[j]'(by rw [D.len]; exact hjl), by simp [D.len, hjl]⟩
      obtain ⟨items, x, ht, hix⟩ := hx j l hj el
      have ht2 : SqOf (kd j) h l items := ht.at fun o e => hold l o (notin el) e
      have hi2 := hit j a l ea el
      rw [if_neg (Nat.lt_irrefl _)] at hi2
      have am := D.itz (List.mem_of_getElem? ea)
      refine wpAny_bind (wpAny_onRaise ?_)
      show wpAny _ _ (Builtin.SmallTypes.nextOf (.ref a) >>= _) _ _ _
      refine wpAny_bind (sq_item hi2 ht2 hix fun h₂ hi3 hs₂ => wpAny_pure ?_)
      have hTO3 : h₂.get? TO = some { cls := .type "tuple", data := .seq kj kk } := (hs₂.2 TO (Ne.symm am.2.2)).trans hTO2
      refine wpAny_bind (wpAny_seqItems hTO3 rfl ?_)
      have hfew := D.few
      have line : (1000 : Nat) ≤ sizeLine := by decide
      refine wpAny_bind (wpAny_updateSeq hTO3 rfl ?_ (by rw [hk2]; omega) (by rw [Array.size_setIfInBounds, hk2]; omega))
      refine wpAny_bind (wpAny_letGo (wpAny_pure ⟨_, rfl, rfl, _, _, _, rfl, ?_, Heap.get?_update_self _ hTO3 rfl, ?_, ?_, ?_⟩))
      · rw [Heap.get?_update_other _ _ D.TOz, hs₂.2 z am.1.symm]; exact hz2
      · simp [hk2]
      · intro u a' l' e1 e2
        have am' := D.itz (List.mem_of_getElem? e1)
        by_cases htj : u = j
        · subst htj
          rw [ea] at e1; cases e1
          rw [el] at e2; cases e2
          rw [if_pos (Nat.lt_succ_self _)]
          exact hi3.at fun o e => (Heap.get?_update_other _ _ am'.2.2.symm).trans e
        · have hne : a' ≠ a := fun z => htj (D.inj e1 (z ▸ ea))
          have := hit u a' l' e1 e2
          have ei : (if u < j + 1 then i + 1 else i) = (if u < j then i + 1 else i) := by split <;> split <;> omega
          rw [ei]
          exact this.at fun o e => (Heap.get?_update_other _ _ am'.2.2.symm).trans ((hs₂.2 a' hne).trans e)
      · intro c o hc e
        have h1 : c ≠ TO := fun z => hc (by simp [z])
        have h2 : c ≠ a := fun z => hc (by subst z; exact List.mem_cons_of_mem _ (List.mem_cons_of_mem _ (List.mem_of_getElem? ea)))
        exact (Heap.get?_update_other _ _ h1.symm).trans ((hs₂.2 c h2).trans (hold c o hc e))
    · obtain ⟨rfl, h, kj, kk, rfl, hz2, hTO2, hk2, hit, hold⟩ := hp
      rw [Nat.zero_add] at *
      have hi2 := hit t a l hta htl
      rw [if_neg (Nat.lt_irrefl _)] at hi2
      refine wpAny_bind (wpAny_onRaise ?_)
      show wpAny _ _ (Builtin.SmallTypes.nextOf (.ref a) >>= _) _ _ _
      refine wpAny_bind (sq_end hh hi2 (ht.at fun o e => hold l o (notin htl) e) hend fun h₂ e hs₂ he => ?_)
      obtain ⟨oe, hoe, hce⟩ := he
      have hz₂ : h₂.get? z = some (ZObj .ellipsis f1 TI TO) := hs₂ _ _ am.1.symm hz2
      have hez : e ≠ z := fun x => by subst x; rw [hz₂] at hoe; cases hoe; simp [ZObj] at hce
      refine wpAny_setField_rec hz₂ (by simp) fun h₃ _ hs₃ => hE h₃ e (fun c o hc x => hs₃.extBut _ _ (fun q => hc (by simp [q])) (hs₂ _ _ (fun q => hc (by subst q; exact List.mem_cons_of_mem _ (List.mem_cons_of_mem _ (List.mem_of_getElem? hta)))) (hold c o hc x))) ⟨oe, hs₃.extBut _ _ hez hoe, hce⟩
  · simp only [Bool.false_eq_true, if_false, List.forIn_toArray]
    have up1 : ∀ c o, c ≠ z → s.heap.get? c = some o → h₁.get? c = some o := fun c o hc e => (hs₁.2 c hc).trans e
    refine wpAny_bind (forIn_stop (fun j r s2 => r.1 = none ∧ ∃ h, s2 = { s with heap := h } ∧
        (∀ (u : Nat) (a l : Addr), its[u]? = some a → ls[u]? = some l → SqIter (kd u) h a l (if u < j then i + 1 else i)) ∧ (∀ c o, c ∉ z :: TO :: its → s.heap.get? c = some o → h.get? c = some o)) t _ 0 _ _ (Value.ref a)
      (by rw [List.getElem?_map, hta]; rfl) ⟨rfl, h₁, rfl, fun u a l e1 e2 => (S.it u a l e1 e2).extBut hs₁.extBut (D.itz (List.mem_of_getElem? e1)).1, fun c o hc e => up1 c o (fun z => hc (by simp [z])) e⟩ (fun j p r s2 hj e hp => ?_) fun r s2 hp => ?_)
    · obtain ⟨r1, r2⟩ := r
      obtain ⟨rfl, h, rfl, hit, hold⟩ := hp
      rw [Nat.zero_add] at *
      obtain ⟨a, ea, rfl⟩ : ∃ a, its[j]? = some a ∧ p = Value.ref a := by
        rw [List.getElem?_map] at e
        cases hj : its[j]? with
        | none => rw [hj] at e; cases e
        | some a => rw [hj] at e; cases e; exact ⟨a, rfl, rfl⟩
      have hjl : j < its.length := (List.getElem?_eq_some_iff.mp ea).1
      obtain ⟨l, el⟩ : ∃ l, ls[j]? = some l := ⟨ls[j]'(by rw [D.len]; exact hjl), by simp [D.len, hjl]⟩
      obtain ⟨items, x, ht, hix⟩ := hx j l hj el
      have ht2 : SqOf (kd j) h l items := ht.at fun o e => hold l o (notin el) e
      have hi2 := hit j a l ea el
      rw [if_neg (Nat.lt_irrefl _)] at hi2
      refine wpAny_bind (wpAny_holding ?_)
      show wpAny _ _ (Builtin.SmallTypes.nextOf (.ref a) >>= _) _ _ _
      refine wpAny_bind (sq_item hi2 ht2 hix fun h₂ hi3 hs₂ => wpAny_pure ?_)
      refine wpAny_pure ⟨_, rfl, rfl, h₂, rfl, ?_, ?_⟩
      · intro u a' l' e1 e2
        by_cases htj : u = j
        · subst htj
          rw [ea] at e1; cases e1
          rw [el] at e2; cases e2
          rw [if_pos (Nat.lt_succ_self _)]
          exact hi3
        · have hne : a' ≠ a := fun z => htj (D.inj e1 (z ▸ ea))
          have := hit u a' l' e1 e2
          have ei : (if u < j + 1 then i + 1 else i) = (if u < j then i + 1 else i) := by split <;> split <;> omega
          rw [ei]
          exact this.at fun o e => (hs₂.2 a' hne).trans e
      · intro c o hc e
        exact (hs₂.2 c (fun z => hc (by subst z; exact List.mem_cons_of_mem _ (List.mem_cons_of_mem _ (List.mem_of_getElem? ea))))).trans (hold c o hc e)
    · obtain ⟨r1, r2⟩ := r
      obtain ⟨rfl, h, rfl, hit, hold⟩ := hp
      rw [Nat.zero_add] at *
      have hi2 := hit t a l hta htl
      rw [if_neg (Nat.lt_irrefl _)] at hi2
      refine wpAny_bind (wpAny_holding ?_)
      show wpAny _ _ (Builtin.SmallTypes.nextOf (.ref a) >>= _) _ _ _
      refine wpAny_bind (sq_end hh hi2 (ht.at fun o e => hold l o (notin htl) e) hend fun h₂ e hs₂ he => ?_)
      exact hE h₂ e (fun c o hc x => hs₂ _ _ (fun q => hc (by subst q; exact List.mem_cons_of_mem _ (List.mem_cons_of_mem _ (List.mem_of_getElem? hta)))) (hold c o hc x)) he
theorem zipN_end {z TI TO a l : Addr} {its ls : List Addr} {i t : Nat} {items : Array Value} {Q : Option Value → Shared → Prop} (hh : A.handled = none) (D : ZAp z TI TO its ls) (S : ZSt kd s.heap z TI TO its ls i) (hta : its[t]? = some a) (htl : ls[t]? = some l) (ht : SqOf (kd t) s.heap l items) (hend : items[i]? = none)
    (hx : ∀ (u : Nat) (l : Addr), u < t → ls[u]? = some l → ∃ items x, SqOf (kd u) s.heap l items ∧ items[i]? = some x)
    (hQ : ∀ h', (∀ c o, c ∉ z :: TO :: its → s.heap.get? c = some o → h'.get? c = some o) → Q none { s with heap := h' }) : wpAny (model prog w) A (pyNext (.ref z)) Q E s := by
  obtain ⟨f0, f1, hz, hf⟩ := id S.zo
  have hT : s.TypeIs (.ref z) "zip" := ⟨_, hz, rfl⟩
  unfold pyNext
  refine wpAny_bind (wpAny_attempt (wpAny_callSpecial?_slot (name := Str.ofString "__next__") hT F.slot_zip_next (wpAny_call_entry F.slot_zip_next hT F.entry_zip_next (zipN_stop hh D S hta htl ht hend hx fun h' e hk he => ?_) (F.args_zip_next_1 _))))
  obtain ⟨o, ho, hc⟩ := he
  exact wpAny_bind (wpAny_isInstance (T := "StopIteration") (b := true) ⟨o, ho, hc⟩ isSubtype_stop (wpAny_pure (hQ _ hk)))
theorem zip_self {z TI TO : Addr} {f0 f1 : Value} {Q : Value → Shared → Prop} (hz : s.heap.get? z = some (ZObj f0 f1 TI TO)) (h : Q (.ref z) s) : wpAny (model prog w) A (pyIter (.ref z)) Q E s := by
  have hT : s.TypeIs (.ref z) "zip" := ⟨_, hz, rfl⟩
  refine wpAny_pyIter_slot hT F.slot_zip_iter (wpAny_call_entry F.slot_zip_iter hT F.entry_zip_iter ?_ (F.args_zip_iter_1 _))
  show wpAny _ _ (ret (.ref z)) _ _ s
  exact wpAny_pure ⟨_, rfl, "zip", _, hT, F.slot_zip_next.lookup, h⟩
/-- zip(..) of tuples -/
theorem meets_zipN (ls : List Addr) (hl : ls.length ≤ 1000) : Meets (Builtin.«zip.__new__» ⟨.type "zip" :: ls.map Value.ref, []⟩) (fun _ R s => (∀ (t : Nat) (l : Addr), ls[t]? = some l → ∃ items, SqOf (kd t) s.heap l items) ∧
    ∀ h' its, ZSt kd h' (s.heap.objs.size + ls.length + 2) (s.heap.objs.size + ls.length) (s.heap.objs.size + ls.length + 1) its ls 0 → its = (List.range ls.length).map (s.heap.objs.size + ·) → (∀ c o, s.heap.get? c = some o → h'.get? c = some o) → R (.ok (.ret (.ref (s.heap.objs.size + ls.length + 2)))) { s with heap := h' }) :=
  .of_wp fun prog w A R s ⟨ht, h⟩ => by
    have hsub := sub_zip
    obtain ⟨hp, g, d, tk, os⟩ := s
    wp_walk
    show wpAny (model prog w) A.in1 (forIn (ls.map Value.ref) (#[] : Array Value) (fun x its => do let v ← holding its.toList (pyIter x); pure (ForInStep.yield (its.push v)))) _ _ _
    refine forIn_wp (fun j r s' => r = ((List.range j).map fun t => Value.ref (hp.objs.size + t)).toArray ∧ ∃ hh, s' = ⟨hh, g, d, tk, os⟩ ∧ hh.objs.size = hp.objs.size + j ∧ (∀ (t : Nat) (l : Addr), t < j → ls[t]? = some l → SqIter (kd t) hh (hp.objs.size + t) l 0) ∧ ∀ c o, hp.get? c = some o → hh.get? c = some o) _ 0 _ _
      ⟨rfl, hp, rfl, rfl, fun t l ht => absurd ht (Nat.not_lt_zero _), fun _ _ e => e⟩ (fun j x r s' e hq => ?_) fun r s' hq => ?_
    · obtain ⟨rfl, hh, rfl, hsz, hit, hold⟩ := hq
      rw [Nat.zero_add] at *
      obtain ⟨l, el, rfl⟩ : ∃ l, ls[j]? = some l ∧ x = Value.ref l := by
        rw [List.getElem?_map] at e
        cases hj : ls[j]? with
        | none => rw [hj] at e; cases e
        | some a => rw [hj] at e; cases e; exact ⟨a, rfl, rfl⟩
      obtain ⟨items, htl⟩ := ht j l el
      have htl' : SqOf (kd j) hp l items := htl
      refine wpAny_bind (wpAny_holding (sq_pyIter (s := ⟨hh, g, d, tk, os⟩) (htl'.at fun o e => hold l o e) fun ob hob => wpAny_pure ⟨_, rfl, ?_, _, rfl, ?_, ?_, ?_⟩))
      · rw [List.range_succ, List.map_append]
        show Array.push _ (Value.ref hh.objs.size) = _
        rw [hsz]
        simp
      · rw [Heap.size_push, hsz]; omega
      · intro t l' ht' el'
        by_cases htj : t = j
        · subst htj
          rw [el] at el'; cases el'
          rw [← hsz]
          exact hob
        · exact (hit t l' (by omega) el').at fun o e => Heap.get?_push_of_some _ e
      · exact fun c o e => Heap.get?_push_of_some _ (hold c o e)
    · obtain ⟨rfl, hh, rfl, hsz, hit, hold⟩ := hq
      rw [Nat.zero_add, List.length_map] at *
      have line : (1000 : Nat) ≤ sizeLine := (by decide)
      refine wpAny_pure ?_
      refine wpAny_bind (wpAny_newTuple ?_ (by simp; omega))
      refine wpAny_bind (wpAny_newTuple ?_ (by simp; omega))
      show wpAny _ _ (newObj (.type "zip") (.fields #[.none, .bool false, .bool false, _, _]) >>= _) _ _ _
      refine wpAny_bind (wpAny_newObj_type ?_)
      have e1 : ((List.range ls.length).map fun t => Value.ref (hp.objs.size + t)).toArray.toList = ((List.range ls.length).map (hp.objs.size + ·)).map Value.ref := by simp
      have s1 : (hh.push { cls := .type "tuple", data := .seq (((List.range ls.length).map fun t => Value.ref (hp.objs.size + t)).toArray.toList).toArray }).objs.size = hp.objs.size + ls.length + 1 := by rw [Heap.size_push, hsz]
      refine wpAny_pure ⟨_, rfl, ?_⟩
      have hgo := h
      simp only at hgo
      rw [e1] at s1 ⊢
      generalize hits : (List.range ls.length).map (hp.objs.size + ·) = its at *
      have lits : its.length = ls.length := by rw [← hits]; simp
      generalize hA : hh.push { cls := .type "tuple", data := .seq (its.map Value.ref).toArray } = h1 at *
      have zA : h1.objs.size = hp.objs.size + ls.length + 1 := s1
      generalize hB : h1.push { cls := .type "tuple", data := .seq ((its.map Value.ref).map fun _ => Value.none).toArray } = h2 at *
      have zB : h2.objs.size = hp.objs.size + ls.length + 2 := by rw [← hB, Heap.size_push, zA]
      have up : ∀ c o, hh.get? c = some o → h2.get? c = some o := fun c o e => by rw [← hB, ← hA]; exact Heap.get?_push_of_some _ (Heap.get?_push_of_some _ e)
      have gI : h2.get? (hp.objs.size + ls.length) = some { cls := .type "tuple", data := .seq (its.map Value.ref).toArray } := by
        rw [← hB]
        refine Heap.get?_push_of_some _ ?_
        rw [← hA, ← hsz]
        exact Heap.get?_push_size _ rfl
      have gO : h2.get? (hp.objs.size + ls.length + 1) = some { cls := .type "tuple", data := .seq ((its.map Value.ref).map fun _ => Value.none).toArray } := by
        rw [← hB, ← zA]
        exact Heap.get?_push_size _ rfl
      show R (.ok (.ret (.ref h2.objs.size))) ⟨h2.push { cls := .type "zip", data := .fields #[.none, .bool false, .bool false, .ref hh.objs.size, .ref h1.objs.size] }, g, d, tk, os⟩
      rw [hsz, zA]
      have gZ := Heap.get?_push_size h2 (o := { cls := .type "zip", data := .fields #[.none, .bool false, .bool false, .ref (hp.objs.size + ls.length), .ref (hp.objs.size + ls.length + 1)] }) rfl
      rw [zB] at gZ ⊢
      refine hgo _ its ⟨⟨_, _, gZ, .inl rfl⟩, Heap.get?_push_of_some _ gI, ⟨_, _, Heap.get?_push_of_some _ gO, by simp⟩, fun t a l e2 e3 => ?_⟩ rfl fun c o e => Heap.get?_push_of_some _ (up c o (hold c o e))
      have ht3 : t < ls.length := (List.getElem?_eq_some_iff.mp e3).1
      have ea : a = hp.objs.size + t := by
        rw [← hits, List.getElem?_map, List.getElem?_range ht3] at e2
        cases e2; rfl
      subst ea
      exact (hit t l ht3 e3).at fun o e => Heap.get?_push_of_some _ (up _ o e)
end
end DD
namespace DD
open PySem PySem.Spec PyProof.Rows L2
theorem typeCall_zip1 (a : Value) : checkTypeCall "zip" ⟨[a], []⟩ = pure () := by kernel_rfl
theorem typeCall_zip3 (a b c : Value) : checkTypeCall "zip" ⟨[a, b, c], []⟩ = pure () := by kernel_rfl
theorem typeCall_zip4 (a b c d : Value) : checkTypeCall "zip" ⟨[a, b, c, d], []⟩ = pure () := by kernel_rfl
theorem newCall_zip1 (a : Value) : checkBuiltinCall "zip.__new__" ⟨[.type "zip", a], []⟩ = pure () := by kernel_rfl
theorem newCall_zip3 (a b c : Value) : checkBuiltinCall "zip.__new__" ⟨[.type "zip", a, b, c], []⟩ = pure () := by kernel_rfl
theorem newCall_zip4 (a b c d : Value) : checkBuiltinCall "zip.__new__" ⟨[.type "zip", a, b, c, d], []⟩ = pure () := by kernel_rfl
theorem initOk4 (a b c d : Value) : argsOk "object.__init__" ⟨[a, b, c, d], []⟩ := by
  unfold argsOk
  rw [signature?_of (id := "object.__init__") (n := ['_', '_', 't', 'i', 'n', 'i', '_', '_']) (o := ['t', 'c', 'e', 'j', 'b', 'o']) (by kernel_rfl) F.owner_object]
  kernel_rfl
theorem initOk5 (a b c d e : Value) : argsOk "object.__init__" ⟨[a, b, c, d, e], []⟩ := by
  unfold argsOk
  rw [signature?_of (id := "object.__init__") (n := ['_', '_', 't', 'i', 'n', 'i', '_', '_']) (o := ['t', 'c', 'e', 'j', 'b', 'o']) (by kernel_rfl) F.owner_object]
  kernel_rfl
section
variable {prog : Program} {w : World} {A : Around} {E : Value → Shared → Prop} {s : Shared} {kd : Nat → Bool}
theorem call_zipN {ls : List Addr} {Q : Value → Shared → Prop} (h0 : ls ≠ []) (h4 : ls.length ≤ 4) (ht : ∀ (t : Nat) (l : Addr), ls[t]? = some l → ∃ items, SqOf (kd t) s.heap l items)
    (h : ∀ h' its, ZSt kd h' (s.heap.objs.size + ls.length + 2) (s.heap.objs.size + ls.length) (s.heap.objs.size + ls.length + 1) its ls 0 → its = (List.range ls.length).map (s.heap.objs.size + ·) → (∀ c o, s.heap.get? c = some o → h'.get? c = some o) → Q (.ref (s.heap.objs.size + ls.length + 2)) { s with heap := h' }) :
    wpAny (model prog w) A (call (.type "zip") (ls.map Value.ref)) Q E s := by
  have hct : checkTypeCall "zip" ⟨ls.map Value.ref, []⟩ = pure () := by
    match ls, h0, h4 with
    | [a], _, _ => exact typeCall_zip1 _
    | [a, b], _, _ => exact F.typeCall_zip_2 _ _
    | [a, b, c], _, _ => exact typeCall_zip3 _ _ _
    | [a, b, c, d], _, _ => exact typeCall_zip4 _ _ _ _
    | _ :: _ :: _ :: _ :: _ :: _, _, h => simp at h
  have hcn : checkBuiltinCall "zip.__new__" ⟨.type "zip" :: ls.map Value.ref, []⟩ = pure () := by
    match ls, h0, h4 with
    | [a], _, _ => exact newCall_zip1 _
    | [a, b], _, _ => exact F.newCall_zip_2 _ _
    | [a, b, c], _, _ => exact newCall_zip3 _ _ _
    | [a, b, c, d], _, _ => exact newCall_zip4 _ _ _ _
    | _ :: _ :: _ :: _ :: _ :: _, _, h => simp at h
  have hok : ∀ obj, argsOk "object.__init__" ⟨obj :: ls.map Value.ref, []⟩ := fun obj => by
    match ls, h0, h4 with
    | [a], _, _ => exact F.args_object_init_2 _ _
    | [a, b], _, _ => exact F.args_object_init_3 _ _ _
    | [a, b, c], _, _ => exact initOk4 _ _ _ _
    | [a, b, c, d], _, _ => exact initOk5 _ _ _ _ _
    | _ :: _ :: _ :: _ :: _ :: _, _, h => simp at h
  have h5 : ls.length ≤ 1000 := by omega
  refine callType_new F.called_zip (by decide) hct hcn hok F.entry_zip_new (meets_zipN (kd := kd) ls h5) ?_
  refine ⟨ht, fun h' its hz he hk => ?_⟩
  obtain ⟨f0, f1, hzo, _⟩ := hz.zo
  exact ⟨⟨_, hzo, rfl⟩, h h' its hz he hk⟩
end
/-- a list or a tuple, by its kind -/
def SqK (k : Bool) (K : PySem.W.Frag) (H : Hp) (a : Addr) (row : List V) : Prop := if k = true then SqL K H a row else SqT K H a row
theorem SqK.mono {k : Bool} {K : PySem.W.Frag} {H H' : Hp} {a : Addr} {row : List V} (e : SubM H H') (h : SqK k K H a row) : SqK k K H' a row := by
  cases k
  · exact sameT e h
  · exact e.seq h
theorem sqk_inv {X : Cx} {pins : List (Addr × Obj)} {σ : L2.St} {H : Hp} {s : Shared} (I : Inv X pins σ H s) {k : Bool} {a : Addr} {row : List V} (h : SqK k X.K H a row) : ∃ its : List Value, Vals row its ∧ SqOf k s.heap a its.toArray ∧ row.length ≤ sizeLine := by
  cases k
  · obtain ⟨its, r, p, z⟩ := I.tuple h
    exact ⟨its, r, p, z⟩
  · obtain ⟨its, r, p, z⟩ := I.list h
    exact ⟨its, r, p.isList, z⟩
theorem sqk_inj {X : Cx} {pins : List (Addr × Obj)} {σ : L2.St} {H : Hp} {s : Shared} (I : Inv X pins σ H s) {k : Bool} {a : Addr} {row row' : List V} (h : SqK k X.K H a row) (h' : SqK k X.K H a row') : row = row' := by
  cases k
  · exact I.tuple_inj h h'
  · exact I.list_inj h h'
/-- the sequences at as, turn by turn: new tuples of their items -/
def Itn (K : PySem.W.Frag) (kd : Nat → Bool) (as : List Addr) : It :=
  ⟨fun i H => ∀ (t : Nat) (a : Addr), as[t]? = some a → ∃ row x, SqK (kd t) K H a row ∧ row[i]? = some x,
    fun i H v H' => ∃ T xs, v = .ref T ∧ H T = none ∧ H' = upd H T (.tup xs) ∧ xs.length = as.length ∧ ∀ (t : Nat) (a : Addr) (row : List V), as[t]? = some a → SqK (kd t) K H a row → ∃ x, xs[t]? = some x ∧ row[i]? = some x,
    fun i H => ∃ t a row, as[t]? = some a ∧ SqK (kd t) K H a row ∧ row.length ≤ i ∧ ∀ (u : Nat) (b : Addr), u < t → as[u]? = some b → ∃ row x, SqK (kd u) K H b row ∧ row[i]? = some x⟩
theorem zip_go {prog : Program} {w : World} {A : Around} {E : Value → Shared → Prop} {s : Shared} {tg : Expr} {z TI TO T : Addr} {its as : List Addr} {i : Nat} {kd : Nat → Bool} {R : Unit → Shared → Prop} (D : ZAp z TI TO its as) (st : ZSt kd s.heap z TI TO its as i)
    (hR : ∀ h2, ZSt kd h2 z TI TO its as i → (∀ c o, c ≠ z → s.heap.get? c = some o → h2.get? c = some o) → R () { s with heap := h2 }) : wpAny (model prog w) A (letOwnedTupleGo tg (.ref z) (.ref T)) R E s := by
  have plain : wpAny (model prog w) A (pure ()) R E s := wpAny_pure (hR s.heap st fun _ _ _ e => e)
  obtain ⟨f0, f1, hz, hf0⟩ := id st.zo
  have hit : ∀ {R' : Unit → Shared → Prop}, (∀ s', R () s' → R' () s') → wpAny (model prog w) A (setField (.ref z) 0 .none) R' E s := fun {R'} hw => by
    refine wpAny_setField_rec hz (by simp) fun h2 hz2 hs2 => hw _ (hR h2 ?_ fun c o hc e => (hs2.2 c hc).trans e)
    obtain ⟨kp, k0, hTO, hks⟩ := st.to
    exact ⟨⟨.none, f1, hz2, .inl rfl⟩, (hs2.2 _ D.TIz).trans st.ti, ⟨kp, k0, (hs2.2 _ D.TOz).trans hTO, hks⟩, fun t a l e1 e2 => (st.it t a l e1 e2).at fun o e => (hs2.2 a (D.itz (List.mem_of_getElem? e1)).1).trans e⟩
  unfold letOwnedTupleGo
  split
  · refine wpAny_bind (wpAny_load hz ?_)
    simp only [ZObj]
    split
    · exact wpAny_bind (wpAny_rule (hit fun _ h => h))
    · exact plain
  · refine wpAny_bind (wpAny_load hz ?_)
    simp only [ZObj]
    split
    · exact wpAny_bind (wpAny_rule (hit fun _ h => h))
    · exact plain
  · exact plain
theorem turn_zipN {P : Program} {w : World} {K : PySem.W.Frag} {tg : Expr} {z TI TO : Addr} {its as : List Addr} {kd : Nat → Bool} (D : ZAp z TI TO its as) : Turn P w K tg (Itn K kd as) (z :: TI :: TO :: its) z (fun i h => ZSt kd h z TI TO its as i) where
  mem := by simp
  obj := fun i h st c hc => by
    obtain ⟨f0, f1, hz, _⟩ := st.zo
    obtain ⟨kp, k0, hTO, _⟩ := st.to
    simp only [List.mem_cons] at hc
    rcases hc with rfl | rfl | rfl | hc
    · exact ⟨_, hz, fun v q => nomatch q⟩
    · exact ⟨_, st.ti, fun v q => nomatch q⟩
    · exact ⟨_, hTO, fun v q => nomatch q⟩
    · obtain ⟨t, ht⟩ := List.getElem?_of_mem hc
      have hl : t < as.length := by rw [D.len]; exact (List.getElem?_eq_some_iff.mp ht).1
      obtain ⟨o, ho, _, hd⟩ := (st.it t c as[t] ht (List.getElem?_eq_getElem hl)).ex
      exact ⟨o, ho, fun v q => by rw [hd] at q; cases q⟩
  keep := fun i h h' st k => by
    obtain ⟨f0, f1, hz, hf⟩ := st.zo
    obtain ⟨kp, k0, hTO, hs⟩ := st.to
    exact ⟨⟨f0, f1, k z (by simp) _ hz, hf⟩, k TI (by simp) _ st.ti, ⟨kp, k0, k TO (by simp) _ hTO, hs⟩, fun t a l e1 e2 => (st.it t a l e1 e2).at fun o q => k a (by simp [List.mem_of_getElem? e1]) o q⟩
  item := by
    intro X hP hw hK hc i pins s σ H E I hf st hg
    subst hP hw hK
    have hg' : ∀ (t : Nat) (a : Addr), as[t]? = some a → ∃ row x, SqK (kd t) X.K H a row ∧ row[i]? = some x := hg
    -- the values, one a tuple
    have vals : ∀ (bs : List Addr) (off : Nat), (∀ (t : Nat) (a : Addr), bs[t]? = some a → ∃ row x, SqK (kd (off + t)) X.K H a row ∧ row[i]? = some x) → ∃ (xs : List V) (us : List Value), Vals xs us ∧ xs.length = bs.length ∧ ∀ (t : Nat) (a : Addr), bs[t]? = some a → ∃ x u row items, xs[t]? = some x ∧ us[t]? = some u ∧ SqK (kd (off + t)) X.K H a row ∧ row[i]? = some x ∧ SqOf (kd (off + t)) s.heap a items ∧ items[i]? = some u := by
      intro bs
      induction bs with
      | nil => intro _ _; exact ⟨[], [], .nil, rfl, fun t a e => by simp at e⟩
      | cons b bs ih =>
        intro off hb
        obtain ⟨xs, us, r, hl, q⟩ := ih (off + 1) fun t a e => by
          have := hb (t + 1) a (by simpa using e)
          rwa [show off + (t + 1) = off + 1 + t by omega] at this
        obtain ⟨row, x, sq, hx⟩ := hb 0 b rfl
        obtain ⟨its', rv, p, _⟩ := sqk_inv I sq
        obtain ⟨u, hu, ru⟩ := rv.get hx
        refine ⟨x :: xs, u :: us, .cons ru r, by simp [hl], fun t a e => ?_⟩
        cases t with
        | zero =>
          simp at e
          subst e
          exact ⟨x, u, row, _, rfl, rfl, sq, hx, p, by simpa using hu⟩
        | succ t =>
          have := q t a (by simpa using e)
          rw [show off + 1 + t = off + (t + 1) by omega] at this
          simpa using this
    obtain ⟨xs, us, rv, hlx, q⟩ := vals as 0 fun t a e => by rw [Nat.zero_add]; exact hg' t a e
    simp only [Nat.zero_add] at q
    obtain ⟨f0', f1', hz0, _⟩ := id st.zo
    have hzl : ∀ c ∈ z :: TI :: TO :: its, c < s.heap.objs.size := fun c hc => by
      obtain ⟨kp, k0, hTO, _⟩ := st.to
      simp only [List.mem_cons] at hc
      rcases hc with rfl | rfl | rfl | hc
      · exact Heap.lt_size hz0
      · exact Heap.lt_size st.ti
      · exact Heap.lt_size hTO
      · obtain ⟨t, ht⟩ := List.getElem?_of_mem hc
        have hl : t < as.length := by rw [D.len]; exact (List.getElem?_eq_some_iff.mp ht).1
        obtain ⟨o, ho, _, hd⟩ := (st.it t c as[t] ht (List.getElem?_eq_getElem hl)).ex
        exact Heap.lt_size ho
    have hus : us.length = its.length := by rw [← rv.length, hlx, D.len]
    have hux : ∀ (t : Nat) (l : Addr) (x : Value), as[t]? = some l → us[t]? = some x → ∃ items, SqOf (kd t) s.heap l items ∧ items[i]? = some x := fun t l x e1 e2 => by
      obtain ⟨x', u, row, items, _, e4, _, _, e5, e6⟩ := q t l e1
      rw [e2] at e4
      cases e4
      exact ⟨items, e5, e6⟩
    apply zipN_item D st hus hux
    intro h' st' hT hsz hk
    refine ⟨_, rfl, ?_⟩
    refine zip_go (s := { s with heap := h' }) D st' fun h2 st2 hk2 => ?_
    have hT2 : h2.get? s.heap.objs.size = some { cls := .type "tuple", data := .seq us.toArray } := hk2 _ _ (Nat.ne_of_gt (hzl z (by simp))) hT
    have few := D.few
    have line : (1000 : Nat) ≤ sizeLine := by decide
    have new : ObjOk X.prog X.w (upd H s.heap.objs.size (.tup xs)) h2 s.heap.objs.size (.tup xs) := ⟨by rw [hlx, D.len]; omega, us, rv, ⟨_, hT2, rfl, _, rfl⟩⟩
    have I1 : Inv X pins σ (upd H s.heap.objs.size (.tup xs)) { s with heap := h2 } :=
      I.turnedNew (t' := s.toks) (ch := z :: TI :: TO :: its) (fun c o hb e => hk2 c o (fun q => hb (by simp [q])) (hk c o (fun hm => hb (by
        simp only [List.mem_cons] at hm ⊢
        rcases hm with h | h | h
        · exact .inl h
        · exact .inr (.inr (.inl h))
        · exact .inr (.inr (.inr h)))) e)) hf (Nat.le_refl _) new
    have hy : (Itn X.K kd as).yld i H (.ref s.heap.objs.size) (upd H s.heap.objs.size (.tup xs)) := by
      refine ⟨s.heap.objs.size, xs, rfl, I.hok.fresh (Nat.le_refl _), rfl, hlx, fun t a row e1 e2 => ?_⟩
      obtain ⟨x', u, row', items, h1, _, h3, h4, _⟩ := q t a e1
      rw [sqk_inj I h3 e2] at h4
      exact ⟨x', h1, h4⟩
    have hfree : ∀ b ∈ z :: TI :: TO :: its, (upd H s.heap.objs.size (.tup xs)) b = none := fun c hcm => by
      rw [upd_ne (Nat.ne_of_lt (hzl c hcm))]
      exact (hf c hcm).1
    exact ⟨.ref s.heap.objs.size, upd H s.heap.objs.size (.tup xs), I1, rfl, hy, st2, hfree⟩
  done := by
    intro X hP hw hK hc i pins s σ H E I hf st hg
    subst hP hw hK
    obtain ⟨t, a, row, ha, sq, hlen, hpre⟩ := hg
    obtain ⟨its', rv, p, _⟩ := sqk_inv I sq
    have htl : t < its.length := by rw [← D.len]; exact (List.getElem?_eq_some_iff.mp ha).1
    refine zipN_end (I.ok.hd hc) D st (List.getElem?_eq_getElem htl) ha p (by rw [List.getElem?_toArray, ← List.getElem?_eq_none_iff.mpr (show its'.length ≤ i by rw [← rv.length]; exact hlen)]) (fun u l hu el => by
      obtain ⟨row', x, sq', hx'⟩ := hpre u l hu el
      obtain ⟨its2, rv2, p2, _⟩ := sqk_inv I sq'
      obtain ⟨v, hv, _⟩ := rv2.get hx'
      exact ⟨_, v, p2, by simpa using hv⟩) fun h' hk => ⟨rfl, I.turnedL (t' := s.toks) (ch := z :: TI :: TO :: its) (fun c o hb e => hk c o (fun hm => hb (by
        simp only [List.mem_cons] at hm ⊢
        rcases hm with h | h | h
        · exact .inl h
        · exact .inr (.inr (.inl h))
        · exact .inr (.inr (.inr h)))) e) hf⟩
  self := fun A i s Q E st h => let ⟨_, _, hz, _⟩ := st.zo; zip_self hz h
end DD
namespace DD
open PySem PySem.Spec PyProof.Rows L2
def iZipN (K : PySem.W.Frag) (ta : TA) : TI := fun σ H R => ta σ H fun vs H1 => ∃ (kd : Nat → Bool) (as : List Addr), vs = as.map V.ref ∧ as ≠ [] ∧ as.length ≤ 4 ∧ (∀ (t : Nat) (a : Addr), as[t]? = some a → ∃ row, SqK (kd t) K H1 a row) ∧ R (Itn K kd as) H1
theorem vals_refs : ∀ {as : List Addr} {us : List Value}, Vals (as.map V.ref) us → us = as.map Value.ref
  | [], _, .nil => rfl
  | a :: as, _, .cons r rs => by
    rw [vals_refs rs]
    cases r
    rfl
section
variable {X : Cx} {tg : Expr}
theorem zip_come {pins : List (Addr × Obj)} {s : Shared} {σ : L2.St} {H : Hp} {R : It → Hp → Prop} {as : List Addr} {kd : Nat → Bool} (I : Inv X pins σ H s) (h0 : as ≠ []) (h4 : as.length ≤ 4) (ht : ∀ (t : Nat) (a : Addr), as[t]? = some a → ∃ row, SqK (kd t) X.K H a row) (hR : R (Itn X.K kd as) H) :
    wpAny (model X.prog X.w) X.A (call (.type "zip") (as.map Value.ref)) (fun v s1 => wpAny (model X.prog X.w) X.A (pyIter v) (PIE X pins σ tg R) X.xe s1) X.xe s := by
  have htl : ∀ a : Nat, a ∈ as → a < s.heap.objs.size := fun a ha => by
    obtain ⟨t, hta⟩ := List.getElem?_of_mem ha
    obtain ⟨row, sq⟩ := ht t a hta
    obtain ⟨its, _, p, _⟩ := sqk_inv I sq
    generalize kd t = k at p
    cases k
    · obtain ⟨o, ho, _⟩ := (show s.heap.IsTuple a _ from p)
      exact Heap.lt_size ho
    · obtain ⟨o, ho, _⟩ := (show s.heap.IsList a _ from p)
      exact Heap.lt_size ho
  refine call_zipN (kd := kd) h0 h4 (fun t l hl => by obtain ⟨row, sq⟩ := ht t l hl; obtain ⟨its, _, p, _⟩ := sqk_inv I sq; exact ⟨_, p⟩) fun h' its hz he hk => ?_
  obtain ⟨f0, f1, hzo, _⟩ := id hz.zo
  refine zip_self hzo ?_
  have I2 : Inv X pins σ H { s with heap := h' } := I.kept (t' := s.toks) hk
  have hle : ∀ c : Nat, c ∈ (s.heap.objs.size + as.length + 2) :: (s.heap.objs.size + as.length) :: (s.heap.objs.size + as.length + 1) :: its → s.heap.objs.size ≤ c := fun c hc => by
    simp only [List.mem_cons] at hc
    rcases hc with rfl | rfl | rfl | hc
    · omega
    · omega
    · omega
    · rw [he] at hc
      obtain ⟨t, _, rfl⟩ := List.mem_map.mp hc
      omega
  have D : ZAp (s.heap.objs.size + as.length + 2) (s.heap.objs.size + as.length) (s.heap.objs.size + as.length + 1) its as := by
    have hi : ∀ c : Nat, c ∈ its → c < s.heap.objs.size + as.length := fun c hc => by
      rw [he] at hc
      obtain ⟨t, ht, rfl⟩ := List.mem_map.mp hc
      have := List.mem_range.mp ht
      omega
    refine ⟨?_, by rw [he]; simp, by rw [he]; simp; omega, ?_, fun l hl hm => ?_⟩
    · rw [he]
      intro e
      have : as.length = 0 := by simpa using congrArg List.length e
      exact h0 (List.eq_nil_of_length_eq_zero this)
    · refine List.nodup_cons.mpr ⟨fun hm => ?_, List.nodup_cons.mpr ⟨fun hm => ?_, List.nodup_cons.mpr ⟨fun hm => ?_, ?_⟩⟩⟩
      · simp only [List.mem_cons] at hm
        rcases hm with e | e | e
        · exact absurd (show (_ : Nat) = _ from e) (by omega)
        · exact absurd (show (_ : Nat) = _ from e) (by omega)
        · have := hi _ e; omega
      · simp only [List.mem_cons] at hm
        rcases hm with e | e
        · exact absurd (show (_ : Nat) = _ from e) (by omega)
        · have := hi _ e; omega
      · have := hi _ hm; omega
      · rw [he]
        exact (List.pairwise_map.mpr (List.nodup_range.imp (fun {a b} h e => h (Nat.add_left_cancel e))))
    · have := hle l hm
      have := htl l hl
      omega
  exact ⟨_, _, _, _, H, rfl, I2, turn_zipN D, hz, fun b hb => I.fpOk (hle b hb) (I.hok.fresh (hle b hb)), hR⟩
theorem callWith_typeS {M : Model} {A : Around} {E : Value → Shared → Prop} {s : Shared} {env : Env} {pos p : Pos} {T : String} {e : Expr} {Q : Value → Shared → Prop}
    (h : wpAny M A (eval e env) (fun v s₁ => PySem.W.StarOf M A E v (fun vs s₂ => wpAny M A (call (.type T) vs) Q E s₂) s₁) E s)
    (he : starEach [.Starred e p] env = [(true, eval e env)] := by rfl) :
    wpAny M A (callWith pos (.type T) [] (backTo pos (starEach [.Starred e p] env)) []) Q E s := by
  rw [he]
  refine PySem.W.ks_call (P := fun _ => True) rfl (fun h _ => ⟨.machine, .inr (.inl rfl), PySem.W.Looks.now⟩) (PySem.W.ks_lone (wpAny_mono h (fun v s1 h1 => ?_) fun _ _ x => x))
  unfold PySem.W.StarOf at h1 ⊢
  exact wpAny_mono h1 (fun b s2 h2 => ⟨h2.1, wpAny_mono h2.2 (fun vs s3 h3 => ⟨trivial, h3⟩) fun _ _ x => x⟩) fun _ _ x => x
/-- zip(*e) -/
def iZipS (K : PySem.W.Frag) (te : TE) : TI := fun σ H R => te σ H fun x H1 => ∃ (kd : Nat → Bool) (p : Addr) (as : List Addr), x = V.ref p ∧ (SqT K H1 p (as.map V.ref) ∨ SqL K H1 p (as.map V.ref)) ∧ as ≠ [] ∧ as.length ≤ 4 ∧ (∀ (t : Nat) (a : Addr), as[t]? = some a → ∃ row, SqK (kd t) K H1 a row) ∧ R (Itn K kd as) H1
theorem pi_zipS {e : Expr} {te : TE} {p sp pos : Pos} (hg : Gl X "zip") (hm : X.mg "zip" = none) (he : PE X e te) (hs : starEach [.Starred e sp] X.env = [(true, eval e X.env)] := by rfl) :
    PI X tg (.Call (.Name "zip" p) [.Starred e sp] [] pos) (iZipS X.K te) := by
  refine ⟨fun pins s σ H R I h => ?_⟩
  refine Call_ (ld_blt I hg hm PyProof.Rows.boot_zip (callWith_typeS (thn (he.run pins s σ H _ I h) fun v s1 ⟨x, H1, I1, r1, q1⟩ => ?_) hs))
  obtain ⟨kd, a, as, ex, hx, h0, h4, ht, q⟩ := q1
  subst ex
  obtain rfl : v = Value.ref a := r1
  refine StX.star_any I1 hx fun us s2 I2 rv => ?_
  rw [vals_refs rv]
  exact zip_come I2 h0 h4 ht q
theorem pi_zipN {e : Expr} {es : List Expr} {ta : TA} {p pos : Pos} (hg : Gl X "zip") (hm : X.mg "zip" = none) (ha : PA X (e :: es) ta)
    (hs : starEach (e :: es) X.env = (false, eval e X.env) :: starEach es X.env := by rfl) (hpl : (backTo pos (starEach es X.env)).any (·.1) = false := by rfl) :
    PI X tg (.Call (.Name "zip" p) (e :: es) [] pos) (iZipN X.K ta) := by
  refine ⟨fun pins s σ H R I h => ?_⟩
  refine Call_ (ld_blt I hg hm PyProof.Rows.boot_zip (PyProof.Rows.callWith_type1 (thn (ha.run pos pins s σ H _ I h) fun us s1 ⟨vs, H1, I1, r1, q1⟩ => ?_) hs hpl))
  obtain ⟨kd, as, ex, h0, h4, ht, q⟩ := q1
  subst ex
  rw [vals_refs r1]
  exact zip_come I1 h0 h4 ht q
end
/-- the rows of a table: tuples or lists -/
def rowsD : List D → Option (List (List D))
  | [] => some []
  | .tuple r :: ds => (rowsD ds).map (r :: ·)
  | .list r :: ds => (rowsD ds).map (r :: ·)
  | _ :: _ => none
def kindsD : List D → List Bool
  | [] => []
  | .list _ :: ds => true :: kindsD ds
  | _ :: ds => false :: kindsD ds
/-- the least length -/
def leastL : Nat → List (List D) → Nat
  | n, [] => n
  | n, r :: rs => leastL (min n r.length) rs
theorem leastL_le : ∀ (n : Nat) (rs : List (List D)), leastL n rs ≤ n
  | n, [] => Nat.le_refl _
  | n, r :: rs => Nat.le_trans (leastL_le _ rs) (Nat.min_le_left ..)
theorem leastL_mem : ∀ (n : Nat) (rs : List (List D)) (r : List D), r ∈ rs → leastL n rs ≤ r.length
  | n, r' :: rs, r, h => by
    rcases List.mem_cons.mp h with rfl | h
    · exact Nat.le_trans (leastL_le _ rs) (Nat.min_le_right ..)
    · exact leastL_mem _ rs r h
theorem leastL_eq : ∀ (n : Nat) (rs : List (List D)), (∀ r ∈ rs, n ≤ r.length) → leastL n rs = n
  | n, [], _ => rfl
  | n, r :: rs, h => by
    unfold leastL
    rw [Nat.min_eq_left (h r List.mem_cons_self)]
    exact leastL_eq n rs fun x hx => h x (List.mem_cons_of_mem _ hx)
/-- the first that is that short -/
theorem leastL_at : ∀ (r : List D) (rs : List (List D)), ∃ (t : Nat) (x : List D), (r :: rs)[t]? = some x ∧ x.length = leastL r.length rs ∧ ∀ (u : Nat) (y : List D), u < t → (r :: rs)[u]? = some y → leastL r.length rs < y.length := by
  intro r rs
  have ex : ∃ (t : Nat) (x : List D), (r :: rs)[t]? = some x ∧ x.length = leastL r.length rs := by
    have gen : ∀ (n : Nat) (rs : List (List D)), leastL n rs = n ∨ ∃ x ∈ rs, x.length = leastL n rs := by
      intro n rs
      induction rs generalizing n with
      | nil => exact .inl rfl
      | cons a rs ih =>
        unfold leastL
        rcases ih (min n a.length) with h | ⟨x, hx, e⟩
        · rcases Nat.le_total n a.length with h2 | h2
          · left; rw [h, Nat.min_eq_left h2]
          · right; exact ⟨a, List.mem_cons_self, by rw [h, Nat.min_eq_right h2]⟩
        · exact .inr ⟨x, List.mem_cons_of_mem _ hx, e⟩
    rcases gen r.length rs with h | ⟨x, hx, e⟩
    · exact ⟨0, r, rfl, h.symm⟩
    · obtain ⟨t, ht⟩ := List.getElem?_of_mem hx
      exact ⟨t + 1, x, by simpa using ht, e⟩
  obtain ⟨t, x, h1, h2⟩ := ex
  induction t using Nat.strongRecOn generalizing x with
  | ind t ih =>
    by_cases hc : ∃ (u : Nat) (y : List D), u < t ∧ (r :: rs)[u]? = some y ∧ y.length = leastL r.length rs
    · obtain ⟨u, y, hu, e1, e2⟩ := hc
      exact ih u hu y e1 e2
    · refine ⟨t, x, h1, h2, fun u y hu e => ?_⟩
      have hle : leastL r.length rs ≤ y.length := by
        cases u with
        | zero => simp at e; subst e; exact leastL_le _ _
        | succ u => exact leastL_mem _ _ _ (List.mem_of_getElem? (by simpa using e))
      rcases Nat.lt_or_eq_of_le hle with h | h
      · exact h
      · exact absurd ⟨u, y, hu, e, h.symm⟩ hc
def zipD (ds : List D) : Option (List D) :=
  match rowsD ds with
  | some (r :: rs) => if rs.length ≤ 3 then some ((List.range (leastL r.length rs)).map fun i => .tuple ((r :: rs).map fun x => x.getD i .none)) else none
  | _ => none
theorem zipD_old {ds : List D} {r : List D} {rs : List (List D)} (h : rowsD ds = some (r :: rs)) (h3 : rs.length ≤ 3) (hl : ∀ x ∈ rs, r.length ≤ x.length) : zipD ds = some ((List.range r.length).map fun i => .tuple ((r :: rs).map fun x => x.getD i .none)) := by
  unfold zipD
  rw [h]
  simp only
  rw [if_pos h3, leastL_eq _ _ hl]
theorem rows_da {K : PySem.W.Frag} {G : Hp} : ∀ {ds : List D} {rs : List (List D)} {xs : List V}, DaAll K G xs ds → rowsD ds = some rs → ∃ as : List Addr, xs = as.map V.ref ∧ as.length = rs.length ∧ ∀ (t : Nat) (a : Addr), as[t]? = some a → ∃ row r, SqK ((kindsD ds).getD t false) K G a row ∧ rs[t]? = some r ∧ DaAll K G row r
  | [], rs, _, .nil, e => by cases e; exact ⟨[], rfl, rfl, fun t a h => by simp at h⟩
  | .tuple r :: ds, rs, _, .cons h hs, e => by
    unfold rowsD at e
    obtain ⟨rs', e', rfl⟩ := Option.map_eq_some_iff.mp e
    obtain ⟨as, ex, el, q⟩ := rows_da hs e'
    obtain ⟨a, xs, rfl, sq, da⟩ := h.toT
    refine ⟨a :: as, by rw [ex]; rfl, by simp [el], fun t b hb => ?_⟩
    cases t with
    | zero => simp at hb; subst hb; exact ⟨xs, r, sq, rfl, da⟩
    | succ t => exact q t b (by simpa using hb)
  | .list r :: ds, rs, _, .cons h hs, e => by
    unfold rowsD at e
    obtain ⟨rs', e', rfl⟩ := Option.map_eq_some_iff.mp e
    obtain ⟨as, ex, el, q⟩ := rows_da hs e'
    cases h with
    | lst hl da =>
      rename_i a xs
      refine ⟨a :: as, by rw [ex]; rfl, by simp [el], fun t b hb => ?_⟩
      cases t with
      | zero => simp at hb; subst hb; exact ⟨xs, r, SqL.of hl, rfl, da⟩
      | succ t => exact q t b (by simpa using hb)
  | .none :: _, _, _, .cons _ _, e => by cases e
  | .bool _ :: _, _, _, .cons _ _, e => by cases e
  | .int _ :: _, _, _, .cons _ _, e => by cases e
  | .str _ :: _, _, _, .cons _ _, e => by cases e
  | .dict _ :: _, _, _, .cons _ _, e => by cases e
theorem zipD_w {K : PySem.W.Frag} {G : Hp} {ds out : List D} {xs : List V} (da : DaAll K G xs ds) (e : zipD ds = some out) : ∃ (kd : Nat → Bool) (as : List Addr), xs = as.map V.ref ∧ as ≠ [] ∧ as.length ≤ 4 ∧ (∀ (t : Nat) (a : Addr), as[t]? = some a → ∃ row, SqK (kd t) K G a row) ∧ WalkD K G (Itn K kd as) out := by
  unfold zipD at e
  split at e
  · rename_i r rs er
    split at e
    · rename_i h3
      cases e
      obtain ⟨as, rfl, el, q⟩ := rows_da da er
      have hlen : ∀ (t : Nat) (x : List D), (r :: rs)[t]? = some x → leastL r.length rs ≤ x.length := fun t x hx => by
        cases t with
        | zero => simp at hx; subst hx; exact leastL_le _ _
        | succ t => exact leastL_mem _ _ x (List.mem_of_getElem? (by simpa using hx))
      refine ⟨fun t => (kindsD ds).getD t false, as, rfl, fun e => by subst e; simp at el, by simp at el; omega, fun t a ht => ?_, ?_, ?_, ?_⟩
      · obtain ⟨row, _, sq, _⟩ := q t a ht
        exact ⟨row, sq⟩
      · intro i H hi sm t a ht
        obtain ⟨row, x, sq, hx, dr⟩ := q t a ht
        have h1 := hlen t x hx
        have h2 := dr.length
        have h3 : i < row.length := by simp at hi; omega
        exact ⟨row, row[i], sq.mono sm, by simp [h3]⟩
      · intro H sm
        obtain ⟨t, x, hx, hxl, hpre⟩ := leastL_at r rs
        have ht : t < as.length := by rw [el]; exact (List.getElem?_eq_some_iff.mp hx).1
        obtain ⟨row, x', sq, hx', dr⟩ := q t as[t] (List.getElem?_eq_getElem ht)
        rw [hx] at hx'
        cases hx'
        refine ⟨t, as[t], row, List.getElem?_eq_getElem ht, sq.mono sm, by rw [dr.length, hxl]; simp, fun u b hu hb => ?_⟩
        obtain ⟨row', y, sq', hy, dr'⟩ := q u b hb
        have h1 := hpre u y hu hy
        have h2 := dr'.length
        have h3 : leastL r.length rs < row'.length := by omega
        exact ⟨row', row'[leastL r.length rs], sq'.mono sm, by simp [h3]⟩
      · intro i H G1 x H' hi sm s1 y
        obtain ⟨T, ys, rfl, hT, rfl, hyl, hy⟩ := y
        have hi' : i < leastL r.length rs := by simpa using hi
        refine ⟨.tuple ((r :: rs).map fun x => x.getD i .none), upd G1 T (.tup ys), by simp [hi'], Gr.alloc s1 hT, ?_⟩
        have gr := Gr.alloc (u := .tup ys) s1 hT
        refine .tup (.inl (.inl upd_same)) ?_
        have all : ∀ (bs : List Addr) (zs : List V) (rr : List (List D)), zs.length = bs.length → bs.length = rr.length → (∀ (t : Nat) (a : Addr), bs[t]? = some a → ∃ x row r', zs[t]? = some x ∧ row[i]? = some x ∧ rr[t]? = some r' ∧ DaAll K G row r') → DaAll K (upd G1 T (.tup ys)) zs (rr.map fun x => x.getD i .none) := by
          intro bs
          induction bs with
          | nil =>
            intro zs rr e1 e2 _
            obtain rfl := List.eq_nil_of_length_eq_zero (by simpa using e1)
            obtain rfl := List.eq_nil_of_length_eq_zero (by simpa using e2.symm)
            exact .nil
          | cons b bs ih =>
            intro zs rr e1 e2 hq
            cases zs with
            | nil => simp at e1
            | cons z zs =>
              cases rr with
              | nil => simp at e2
              | cons r1 rr =>
                refine .cons ?_ (ih zs rr (by simpa using e1) (by simpa using e2) fun t a ha => by
                  have := hq (t + 1) a (by simpa using ha)
                  simpa using this)
                obtain ⟨x, row, r', z1, z2, z3, z4⟩ := hq 0 b rfl
                simp at z1 z3
                subst z1 z3
                obtain ⟨d, z5, z6⟩ := z4.getV z2
                have : r1.getD i .none = d := by simp [List.getD, z5]
                show Da K _ z (r1.getD i .none)
                rw [this]
                exact z6.mono (sm.trans gr.g)
        refine all as ys (r :: rs) (by omega) el fun t a ha => ?_
        obtain ⟨row, x, sq, hx, dr⟩ := q t a ha
        obtain ⟨z, z1, z2⟩ := hy t a row ha (sq.mono (sm.subm s1))
        exact ⟨z, row, x, z1, z2, hx, dr⟩
    · cases e
  · cases e
section
variable {m : Type → Type} [Mo m] {X : Cx} {EX : XR} {g : List Sl} {tg : Expr}
theorem ij_zipS {e : Expr} {p sp pos : Pos} {x : m D} (hm : X.mg "zip" = none) (h : EJ X EX e g x) (hg : Gl X "zip" := by rfl) (hs : starEach [.Starred e sp] X.env = [(true, eval e X.env)] := by rfl) :
    IJ X EX tg (.Call (.Name "zip" p) [.Starred e sp] [] pos) g (x >>= fun d => Mo.lift ((itemsD d).bind zipD)) :=
  (pi_zipS hg hm h hs).weak fun σ H R ⟨B, G, n, φ, ξ, o, s, q, xw⟩ => te_one o s (fun v H1 G1 d n1 o1 g1 d1 s1 => by
    obtain ⟨out, ed, pd⟩ := Mo.sat_lift s1
    obtain ⟨ds, e1, e2⟩ := Option.bind_eq_some_iff.mp ed
    obtain ⟨a, xs, ev, sq, da⟩ := d1.seq e1
    obtain ⟨kd, as, rfl, h0, h4, ht, wk⟩ := zipD_w da e2
    refine ⟨kd, a, as, ev, ?_, h0, h4, fun t b hb => by obtain ⟨row, z⟩ := ht t b hb; exact ⟨row, z.mono o1.fm.sub⟩, q _ H1 G1 out n1 o1 g1 wk pd⟩
    rcases sq with sq | sq
    · exact .inl (sameT o1.fm.sub sq)
    · exact .inr (o1.fm.sub.seq sq)) xw
/-- zip(a, b), tuples -/
theorem ij_zip2 {a b : Expr} {p pos : Pos} {x y : m D} (hm : X.mg "zip" = none) (h : EJ X EX a g x) (h2 : EJ X EX b g y) (hg : Gl X "zip" := by rfl)
    (hs' : starEach [a, b] X.env = (false, eval a X.env) :: starEach [b] X.env := by rfl) (hs2' : starEach [b] X.env = (false, eval b X.env) :: starEach [] X.env := by rfl) (hpl : (backTo pos (starEach [b] X.env)).any (·.1) = false := by rfl) :
    IJ X EX tg (.Call (.Name "zip" p) [a, b] [] pos) g (x >>= fun d => y >>= fun e => Mo.lift (zipD [d, e])) :=
  (pi_zipN hg hm (pa_cons h (pa_cons h2 pa_nil hs2') hs') hs' hpl).weak fun σ H R ⟨B, G, n, φ, ξ, o, s, q, xw⟩ => te_one o s (fun v H1 G1 d n1 o1 g1 d1 s1 => te_one o1 s1 (fun w H2 G2 e n2 o2 g2 d2 s2 => by
    obtain ⟨out, ed, pd⟩ := Mo.sat_lift s2
    obtain ⟨kd, as, ex, h0, h4, ht, wk⟩ := zipD_w (.cons (d1.mono g2) (.cons d2 .nil)) ed
    exact ⟨kd, as, ex, h0, h4, fun t b hb => by obtain ⟨row, z⟩ := ht t b hb; exact ⟨row, z.mono o2.fm.sub⟩, q _ H2 G2 out n2 o2 (g1.trans g2) wk pd⟩) xw) xw
end
end DD
namespace DD
open PySem PySem.Spec PyProof.Rows L2
/-! ### the law's call, where no repr runs around it -/
abbrev SysAt (h : Heap) : Prop := ∃ o es ep, h.get? sysModules = some o ∧ o.data = .dict es ep
def scrO (vs : List Value) : Obj := { cls := .type "list", data := .seq vs.toArray }
def scrH (K : PySem.W.Frag) (a : Addr) (vs : List Value) (ns : List Int) : Hp := fun b => if b = a ∧ K.lookup a = none then some (.frz (scrO vs) (.lst (ns.map V.int))) else none
theorem scr_at {K : PySem.W.Frag} {a b : Addr} {vs : List Value} {ns : List Int} {u : HO} (h : scrH K a vs ns b = some u) : b = a ∧ K.lookup a = none ∧ u = .frz (scrO vs) (.lst (ns.map V.int)) := by
  unfold scrH at h
  split at h
  · rename_i e
    cases h
    exact ⟨e.1, e.2, rfl⟩
  · cases h
theorem scr_seq {K : PySem.W.Frag} {h : Heap} {a : Addr} {vs : List Value} {ns : List Int} (KX : K.In h) (ha : h.get? a = some (scrO vs)) (hi : IntsAre vs ns) (hl : ns.length ≤ sizeLine) : SqL K (scrH K a vs ns) a (ns.map V.int) := by
  cases hk : K.lookup a with
  | none => exact .inl (.inr ⟨scrO vs, by unfold scrH; rw [if_pos ⟨rfl, hk⟩]⟩)
  | some o =>
    have e := (KX a o hk).symm.trans ha
    cases e
    exact .inr ⟨_, vs.toArray, _, hk, rfl, rfl, rfl, by rw [List.size_toArray, hi.length]; exact hl, by simpa using vals_ints hi⟩
end DD
namespace DD
open PySem PySem.Spec PyProof.Rows L2
/-! ### the deck: made, drawn from -/
theorem FnG.weak {P : Program} {w : World} {K : PySem.W.Frag} {mg : Str → Option Value} {base : Heap} {k : Nat} {f : Addr} {fd : FuncData} {ps : List Str} {sp sp' : Sp} (F : FnG P w K mg base k f fd ps sp) (h : ∀ vs H Q E, sp' vs H Q E → sp vs H Q E) : FnG P w K mg base k f fd ps sp' :=
  ⟨fun vs H Q E q => F.len vs H Q E (h _ _ _ _ q), fun A outer s H args us vs Q E r gu e b v q => F.run A outer s H args us vs Q E r gu e b v (h _ _ _ _ q)⟩
end DD
namespace DD
open PySem PySem.Spec PyProof.Rows L2
/-! ### the deck's own code: what it means -/
theorem same_new {H : Hp} {p : Addr} (h : H p = none) (o : HO) : Same H (upd H p o) := same_upd h
theorem line63 {n : Nat} (h : n ≤ 1000) : n ≤ sizeLine := Nat.le_trans h (by decide)
/-- a comprehension's scope, checked -/
def blkB (N : List Str) (sc scope : Scope) (own : List (Str × Nat)) : Bool :=
  decide (scope.kind = .function) && scope.names.all (fun y => decide (scope.names.lookup y.1 = some y.2)) && own.all (fun p => decide (N[p.2]? = some p.1)) &&
  scope.names.all (fun y => !decide (y.2 = .free) || (decide (sc.names.lookup y.1 = some .cell) || decide (sc.names.lookup y.1 = some .free))) &&
  scope.names.all (fun y => !(decide (y.2 = .local) || decide (y.2 = .cell)) || (decide (y.1 ∈ own.map (·.1)) || !decide (y.1 ∈ N)))
theorem blk_of {N : List Str} {sc scope : Scope} {own : List (Str × Nat)} (h : blkB N sc scope own = true) : BlkOk N sc scope own := by
  unfold blkB at h
  simp only [Bool.and_eq_true, List.all_eq_true, Bool.or_eq_true, Bool.not_eq_true', decide_eq_true_eq, decide_eq_false_iff_not, Bool.or_eq_false_iff] at h
  obtain ⟨⟨⟨⟨h1, h2⟩, h3⟩, h4⟩, h5⟩ := h
  refine ⟨h1, h2, h3, fun y hy e => ?_, fun y hy e => ?_⟩
  · rcases h4 y hy with z | z
    · exact absurd e z
    · exact z
  · rcases h5 y hy with z | z
    · rcases e with e | e
      · exact absurd e z.1
      · exact absurd e z.2
    · exact z
theorem atI_at {α : Type} {xs : List α} {i : Int} {j : Nat} {x : α} (h : i = (j : Int)) (e : xs[j]? = some x) : atI xs i = some x := by
  subst h
  exact atI_nat e
theorem ixN_at {n : Nat} {i : Int} {j : Nat} (h : i = (j : Int)) (e : j < n) : ixN n i = some j := by
  subst h
  unfold ixN
  rw [if_pos (by omega), if_pos (by omega)]
  simp
end DD
namespace DD
open PySem PySem.Spec PyProof.Rows L2
/-! ### mirrors' words -/
section
variable {m : Type → Type} [Mo m]
abbrev op2 (f : D → D → Option D) (x y : m D) : m D := x >>= fun dx => y >>= fun dy => Mo.lift (f dx dy)
abbrev op1 (f : D → Option D) (x : m D) : m D := x >>= fun d => Mo.lift (f d)
abbrev cmp2 (f : D → D → Option D) (x y : m D) : m Bool := x >>= fun dx => y >>= fun dy => Mo.lift ((f dx dy).bind boolD)
abbrev chain3 (f f' : D → D → Option D) (x y z : m D) : m D := x >>= fun dx => y >>= fun dy => Mo.lift ((f dx dy).bind boolD) >>= fun k => if k = true then (z >>= fun dz => Mo.lift (f' dy dz)) else pure (.bool false)
abbrev tst (x : m D) : m Bool := x >>= fun d => Mo.lift (boolD d)
abbrev notB (x : m Bool) : m Bool := x >>= fun b => pure (!b)
abbrev andB (x y : m Bool) : m Bool := x >>= fun k => if k = true then y else pure false
abbrev orB (x y : m Bool) : m Bool := x >>= fun k => if k = true then pure true else y
abbrev andD (x y : m D) : m D := x >>= fun d => Mo.lift (boolD d) >>= fun k => if k = true then y else pure (.bool false)
abbrev orD (x y : m D) : m D := x >>= fun d => Mo.lift (boolD d) >>= fun k => if k = true then pure (.bool true) else y
abbrev iteM {α : Type} (t : m Bool) (x y : m α) : m α := t >>= fun k => if k = true then x else y
abbrev consM (x : m D) (y : m (List D)) : m (List D) := x >>= fun d => y >>= fun ds => pure (d :: ds)
abbrev starM (x : m D) (y : m (List D)) : m (List D) := x >>= fun d => Mo.lift (itemsD d) >>= fun as => y >>= fun ds => pure (as ++ ds)
abbrev smallM (x : m (List D)) : m (List D) := x >>= fun ds => Mo.lift (small ds)
abbrev tupM (x : m (List D)) : m D := x >>= fun ds => pure (.tuple ds)
abbrev tupSM (x : m (List D)) : m D := x >>= fun ds => Mo.lift (small ds) >>= fun ds => pure (.tuple ds)
abbrev lstM (x : m (List D)) : m D := x >>= fun ds => pure (.list ds)
abbrev argV (x : m D) (y : m (List Sl)) : m (List Sl) := x >>= fun d => y >>= fun as => pure (.val d :: as)
abbrev argK (y : m (List Sl)) : m (List Sl) := y >>= fun as => pure (.deck :: as)
abbrev comp1 (x : m (List D)) (f : D → m D) : m (List D) := x >>= fun ds => Mo.lift (small ds) >>= fun ds => lcA (fun d => someM (f d)) ds []
abbrev comp1i (x : m (List D)) (t : D → m Bool) (f : D → m D) : m (List D) := x >>= fun ds => Mo.lift (small ds) >>= fun ds => lcA (fun d => ifM (t d) (f d)) ds []
abbrev comp2 (x : m (List D)) (f : D → D → m D) : m (List D) := x >>= fun ds => Mo.lift (small ds) >>= fun ds => lcA (fun d => pairM d fun a b => someM (f a b)) ds []
abbrev comp2i (x : m (List D)) (t : D → D → m Bool) (f : D → D → m D) : m (List D) := x >>= fun ds => Mo.lift (small ds) >>= fun ds => lcA (fun d => pairM d fun a b => ifM (t a b) (f a b)) ds []
abbrev seqM (x : m D) : m (List D) := x >>= fun d => Mo.lift (itemsD d)
abbrev rng1 (x : m D) : m (List D) := x >>= fun d => Mo.lift (rangeD1 d)
abbrev rng2 (x y : m D) : m (List D) := x >>= fun d => y >>= fun e => Mo.lift (rangeD2 d e)
abbrev zipSM (x : m D) : m (List D) := x >>= fun d => Mo.lift ((itemsD d).bind zipD)
abbrev zip2M (x y : m D) : m (List D) := x >>= fun d => y >>= fun e => Mo.lift (zipD [d, e])
abbrev zip3M (x y z : m D) : m (List D) := x >>= fun d => y >>= fun e => z >>= fun f => Mo.lift (zipD [d, e, f])
abbrev partM (x : m D) : m (Option Int) := x >>= fun d => Mo.lift (oint d)
abbrev slcM (x : m D) (y z : m (Option Int)) : m D := x >>= fun d => y >>= fun l => z >>= fun h => Mo.lift (sliceD d l h)
abbrev isiM (T : String) (x : m D) : m D := x >>= fun d => pure (.bool (isiB T d))
abbrev rtM {A : Type} (x : m D) : m (Fl A) := x >>= fun d => pure (.rt d)
abbrev forM1 {A : Type} (x : m (List D)) (a0 : A) (b : D → A → m (Fl A)) : m (Fl A) := x >>= fun ds => loopM b ds a0
abbrev forM2 {A : Type} (x : m (List D)) (a0 : A) (b : D → D → A → m (Fl A)) : m (Fl A) := x >>= fun ds => loopM (fun d a => pairM d fun u w => b u w a) ds a0
abbrev parM {α β : Type} (x : m α) (y : m β) : m (α × β) := x >>= fun d => y >>= fun e => pure (d, e)
def pairD : D → Option (D × D)
  | .tuple [a, b] => some (a, b)
  | _ => none
def tripD : D → Option (D × D × D)
  | .tuple [a, b, c] => some (a, b, c)
  | _ => none
abbrev unp2 (x : m D) : m (D × D) := x >>= fun d => Mo.lift (pairD d)
abbrev unp3 (x : m D) : m (D × D × D) := x >>= fun d => Mo.lift (tripD d)
end
abbrev upW (o : Option D) : W D := Up.up (m' := Option) (m := W) o
/-! ### defs by their names -/
structure Def (P : Program) (w : World) (K : PySem.W.Frag) (mg : Str → Option Value) (base : Heap) (k : Nat) (x : Str) (ps : List Str) (sp : Sp) : Prop where
  ex : ∃ f fd, FnG P w K mg base k f fd ps sp ∧ mg x = some (.ref f) ∧ PySem.W.keepIn K (.ref f) = true ∧ Binds K fd ps []
section
variable {m : Type → Type} [Mo m] {A : Type} {X : Cx} {EX : XR} {g : List Sl} {k : Nat} {ps : List Str}
theorem ej_callD {x : Str} {p pos : Pos} {e : Expr} {es : List Expr} {F : List Sl → m D} {y : m (List Sl)} [Calm m] (Fn : Def X.prog X.w X.K X.mg X.base k x ps (spJ X.K F)) (hr : Room k X.A) (gu : X.A.guards = some [])
    (ha : AJ X EX (e :: es) g y) (hg : Gl X x := by rfl) (hd : (x == ("__debug__" : Str)) = false := by decide) (he : starEach (e :: es) X.env = (false, eval e X.env) :: starEach es X.env := by rfl) (hpl : (backTo pos (starEach es X.env)).any (·.1) = false := by rfl) :
    EJ X EX (.Call (.Name x p) (e :: es) [] pos) g (y >>= F) := by
  obtain ⟨f, fd, h1, h2, h3, h4⟩ := Fn.ex
  exact ej_call h1 hr gu h2 h3 h4 ha hg hd he hpl
theorem units_of {A : Around} {k : Nat} (h : Room k A) : A.units + 64 < cLine := by
  have := h.un
  omega
end
section
variable {m : Type → Type} [Mo m] {P : Program} {w : World} {K : PySem.W.Frag} {mg : Str → Option Value} {base : Heap} {k : Nat} {x qual : Str} {st : Stmt} {f : Addr} {fd : FuncData} {N ps : List Str}
def ar1 (F : D → m D) : List Sl → m D
  | [.val a0] => F a0
  | _ => Mo.lift none
theorem fn_ar1 {F : D → m D} (Fu : Fun K x qual st f fd) (S : FnScope N ps (defScope st)) (hl : ps.length = 1)
    (hb : ∀ (a0 : D), ∀ (cdv : Value) (A : Around) (outer : List Env) (s : Shared) (H : Hp) (E : XK), Room k (A.deeper (envOfC qual (defScope st) s.heap.objs.size f cdv)) → A.guards = some [] →
      FJ (cxOf CX0 P w K mg base N qual (defScope st) f cdv A outer s H E).nox X0 true (defBody st) ([Sl.val a0] ++ List.replicate (N.length - 1) .any) (F a0)) : FnG P w K mg base (k + 1) f fd ps (spJ K (ar1 F)) := by
  refine fn_j Fu S fun as n φ s => ?_
  unfold ar1 at s
  split at s
  · exact ⟨hl.symm, hb _⟩
  · obtain ⟨_, e, _⟩ := Mo.sat_lift s
    cases e
def ar2 (F : D → D → m D) : List Sl → m D
  | [.val a0, .val a1] => F a0 a1
  | _ => Mo.lift none
theorem fn_ar2 {F : D → D → m D} (Fu : Fun K x qual st f fd) (S : FnScope N ps (defScope st)) (hl : ps.length = 2)
    (hb : ∀ (a0 : D) (a1 : D), ∀ (cdv : Value) (A : Around) (outer : List Env) (s : Shared) (H : Hp) (E : XK), Room k (A.deeper (envOfC qual (defScope st) s.heap.objs.size f cdv)) → A.guards = some [] →
      FJ (cxOf CX0 P w K mg base N qual (defScope st) f cdv A outer s H E).nox X0 true (defBody st) ([Sl.val a0, Sl.val a1] ++ List.replicate (N.length - 2) .any) (F a0 a1)) : FnG P w K mg base (k + 1) f fd ps (spJ K (ar2 F)) := by
  refine fn_j Fu S fun as n φ s => ?_
  unfold ar2 at s
  split at s
  · exact ⟨hl.symm, hb _ _⟩
  · obtain ⟨_, e, _⟩ := Mo.sat_lift s
    cases e
def ar3 (F : D → D → D → m D) : List Sl → m D
  | [.val a0, .val a1, .val a2] => F a0 a1 a2
  | _ => Mo.lift none
theorem fn_ar3 {F : D → D → D → m D} (Fu : Fun K x qual st f fd) (S : FnScope N ps (defScope st)) (hl : ps.length = 3)
    (hb : ∀ (a0 : D) (a1 : D) (a2 : D), ∀ (cdv : Value) (A : Around) (outer : List Env) (s : Shared) (H : Hp) (E : XK), Room k (A.deeper (envOfC qual (defScope st) s.heap.objs.size f cdv)) → A.guards = some [] →
      FJ (cxOf CX0 P w K mg base N qual (defScope st) f cdv A outer s H E).nox X0 true (defBody st) ([Sl.val a0, Sl.val a1, Sl.val a2] ++ List.replicate (N.length - 3) .any) (F a0 a1 a2)) : FnG P w K mg base (k + 1) f fd ps (spJ K (ar3 F)) := by
  refine fn_j Fu S fun as n φ s => ?_
  unfold ar3 at s
  split at s
  · exact ⟨hl.symm, hb _ _ _⟩
  · obtain ⟨_, e, _⟩ := Mo.sat_lift s
    cases e
def ar4 (F : D → D → D → D → m D) : List Sl → m D
  | [.val a0, .val a1, .val a2, .val a3] => F a0 a1 a2 a3
  | _ => Mo.lift none
theorem fn_ar4 {F : D → D → D → D → m D} (Fu : Fun K x qual st f fd) (S : FnScope N ps (defScope st)) (hl : ps.length = 4)
    (hb : ∀ (a0 : D) (a1 : D) (a2 : D) (a3 : D), ∀ (cdv : Value) (A : Around) (outer : List Env) (s : Shared) (H : Hp) (E : XK), Room k (A.deeper (envOfC qual (defScope st) s.heap.objs.size f cdv)) → A.guards = some [] →
      FJ (cxOf CX0 P w K mg base N qual (defScope st) f cdv A outer s H E).nox X0 true (defBody st) ([Sl.val a0, Sl.val a1, Sl.val a2, Sl.val a3] ++ List.replicate (N.length - 4) .any) (F a0 a1 a2 a3)) : FnG P w K mg base (k + 1) f fd ps (spJ K (ar4 F)) := by
  refine fn_j Fu S fun as n φ s => ?_
  unfold ar4 at s
  split at s
  · exact ⟨hl.symm, hb _ _ _ _⟩
  · obtain ⟨_, e, _⟩ := Mo.sat_lift s
    cases e
def ar5 (F : D → D → D → D → D → m D) : List Sl → m D
  | [.val a0, .val a1, .val a2, .val a3, .val a4] => F a0 a1 a2 a3 a4
  | _ => Mo.lift none
theorem fn_ar5 {F : D → D → D → D → D → m D} (Fu : Fun K x qual st f fd) (S : FnScope N ps (defScope st)) (hl : ps.length = 5)
    (hb : ∀ (a0 : D) (a1 : D) (a2 : D) (a3 : D) (a4 : D), ∀ (cdv : Value) (A : Around) (outer : List Env) (s : Shared) (H : Hp) (E : XK), Room k (A.deeper (envOfC qual (defScope st) s.heap.objs.size f cdv)) → A.guards = some [] →
      FJ (cxOf CX0 P w K mg base N qual (defScope st) f cdv A outer s H E).nox X0 true (defBody st) ([Sl.val a0, Sl.val a1, Sl.val a2, Sl.val a3, Sl.val a4] ++ List.replicate (N.length - 5) .any) (F a0 a1 a2 a3 a4)) : FnG P w K mg base (k + 1) f fd ps (spJ K (ar5 F)) := by
  refine fn_j Fu S fun as n φ s => ?_
  unfold ar5 at s
  split at s
  · exact ⟨hl.symm, hb _ _ _ _ _⟩
  · obtain ⟨_, e, _⟩ := Mo.sat_lift s
    cases e
def dk1 (F : D → m D) : List Sl → m D
  | [.deck, .val a0] => F a0
  | _ => Mo.lift none
end
end DD
namespace DD
open PySem PySem.Spec PyProof.Rows L2
/-! ### reasoning about mirrors that draw: at most b draws, then φ -/
def Tri {α : Type} (b : Nat) (x : W α) (φ : α → Prop) : Prop := ∀ (n : Nat) (ψ : α → Nat → Prop), n + b ≤ 2 ^ 40 → (∀ a n', n' ≤ n + b → φ a → ψ a n') → x n ψ
section
variable {α β : Type} {b c : Nat}
theorem Tri.pure {a : α} {φ : α → Prop} (h : φ a) : Tri 0 (Pure.pure a : W α) φ := fun n ψ _ q => q a n (Nat.le_refl _) h
theorem Tri.bind {x : W α} {f : α → W β} {φ : α → Prop} {χ : β → Prop} (h : Tri b x φ) (hf : ∀ a, φ a → Tri c (f a) χ) : Tri (b + c) (x >>= f) χ := fun n ψ hn q =>
  h n (fun a n' => f a n' ψ) (by omega) fun a n' hn' ha => hf a ha n' ψ (by omega) fun a2 n2 h2 p2 => q a2 n2 (by omega) p2
theorem Tri.lift {o : Option α} {a : α} {φ : α → Prop} (e : o = some a) (h : φ a) : Tri 0 (Mo.lift o : W α) φ := fun n ψ _ q => ⟨a, e, q a n (Nat.le_refl _) h⟩
theorem Tri.mono {x : W α} {φ χ : α → Prop} (h : Tri b x φ) (hb : b ≤ c) (hp : ∀ a, φ a → χ a) : Tri c x χ := fun n ψ hn q => h n ψ (by omega) fun a n' hn' ha => q a n' (by omega) (hp a ha)
theorem Tri.le {x : W α} {φ : α → Prop} (h : Tri b x φ) (hb : b ≤ c) : Tri c x φ := h.mono hb fun _ z => z
theorem Tri.up {o : Option D} {a : D} {φ : D → Prop} (e : o = some a) (h : φ a) : Tri 0 (upW o) φ := fun n ψ _ q => ⟨a, e, q a n (Nat.le_refl _) h⟩
/-- behind a loop: it went on, or handed back -/
def Post {A : Type} (I : A → Prop) (R : D → Prop) : Fl A → Prop
  | .nx a => I a
  | .rt v => R v
theorem Tri.sat {x : W D} {φ : D → Prop} (h : Tri b x φ) (hb : b ≤ 2 ^ 40) : Mo.sat x 0 (fun d _ => φ d) (fun _ _ => False) := ⟨rfl, h 0 (fun d _ => φ d) (by omega) fun _ _ _ z => z⟩
end
/-! ### mirrors that do not draw -/
/-! ### tuples of ints -/
abbrev tI (r : List Int) : D := .tuple (r.map .int)
abbrev tT (rows : List (List Int)) : D := .tuple (rows.map tI)
theorem ints_of : ∀ r : List Int, intsD (r.map .int) = some r
  | [] => rfl
  | i :: r => by
    show (intsD (r.map .int)).map (i :: ·) = _
    rw [ints_of r]
    rfl
theorem sum_tI (r : List Int) : sumD (tI r) = some (.int r.sum) := by
  show (intsD (r.map .int)).map _ = _
  rw [ints_of]
  rfl
theorem sum_lI (r : List Int) : sumD (.list (r.map .int)) = some (.int r.sum) := by
  show (intsD (r.map .int)).map _ = _
  rw [ints_of]
  rfl
theorem rows_of : ∀ rows : List (List Int), rowsD (rows.map tI) = some (rows.map fun r => r.map .int)
  | [] => rfl
  | r :: rows => by
    show (rowsD (rows.map tI)).map (r.map .int :: ·) = _
    rw [rows_of rows]
    rfl
/-! ### what repr shows -/
mutual
def smallB : D → Bool
  | .none => true
  | .bool _ => true
  | .int i => decide (i.natAbs < 10 ^ 20)
  | .str x => PyData.strOk x && decide ((PyData.str x).shown.length ≤ 28)
  | .list xs => smallAll xs
  | .tuple xs => smallAll xs
  | .dict _ => false
def smallAll : List D → Bool
  | [] => true
  | x :: xs => smallB x && smallAll xs
end
mutual
def nodes : D → Nat
  | .list xs => nodesAll xs + 1
  | .tuple xs => nodesAll xs + 1
  | _ => 1
def nodesAll : List D → Nat
  | [] => 0
  | x :: xs => nodes x + nodesAll xs
end
theorem int_len {i : Int} (h : i.natAbs < 10 ^ 20) : (Str.ofString (toString i)).length ≤ 21 := by
  rw [PySem.ofString_length, Int.toString_eq_repr, Int.repr_eq_if]
  split
  · exact Nat.le_trans ((Nat.length_repr_le_iff (k := 20) (by decide)).mpr (by omega)) (by decide)
  · rw [String.length_append]
    have := (Nat.length_repr_le_iff (n := (-i).toNat) (k := 20) (by decide)).mpr (by omega)
    have e : ("-" : String).length = 1 := by decide
    omega
theorem log_lt {i : Int} (h : i.natAbs < 10 ^ 20) : i.natAbs.log2 < 1920 := by
  by_cases h0 : i.natAbs = 0
  · rw [h0]; decide
  · exact Nat.lt_of_lt_of_le ((Nat.log2_lt h0).mpr (Nat.lt_of_lt_of_le h (show 10 ^ 20 ≤ 2 ^ 70 by decide))) (by decide)
theorem list_len (ts : List Str) : (listText ts).length ≤ 2 + piled ts := by
  unfold listText
  rw [strLen_append]
  have e : ((("]" : String) : Str)).length = 1 := rfl
  cases ts with
  | nil =>
    show ((("[" : String) : Str)).length + _ ≤ _
    have e' : ((("[" : String) : Str)).length = 1 := rfl
    rw [e, e', piled_nil]
    omega
  | cons t r =>
    show (textFrom 1 (Str.ofString "[" ++ Str.ofString (if 0 > 0 then ", " else "") ++ t) r).length + _ ≤ _
    rw [textFrom_length_pos r 1 _ (by decide), strLen_append, strLen_append, piled_cons, e]
    have e' : (Str.ofString "[").length = 1 := rfl
    have e2 : (Str.ofString (if 0 > 0 then ", " else "")).length = 0 := rfl
    omega
theorem tup_len (ts : List Str) : (tupleText ts).length ≤ 3 + piled ts := by
  unfold tupleText
  rw [strLen_append, strLen_append]
  have e1 : ((("(" : String) : Str)).length = 1 := rfl
  have e3 : (((if ts.length == 1 then ",)" else ")" : String) : Str)).length ≤ 2 := by split <;> decide
  by_cases h : ts = []
  · subst h
    have e2 : (Str.join (Str.ofString ", ") []).length = 0 := rfl
    rw [e1, e2]
    omega
  · have := join_length_add ts h
    rw [e1]
    omega
mutual
theorem shown_len : ∀ d : D, smallB d = true → d.shown.length + 2 ≤ 30 * nodes d ∧ d.showable = true ∧ d.depth ≤ nodes d
  | .none, _ => ⟨by decide, rfl, by decide⟩
  | .bool b, _ => ⟨by cases b <;> decide, rfl, by cases b <;> decide⟩
  | .int i, h => by
    have h' : i.natAbs < 10 ^ 20 := of_decide_eq_true h
    refine ⟨?_, decide_eq_true (log_lt h'), by simp [PyData.depth, nodes]⟩
    have := int_len h'
    show (Str.ofString (toString i)).length + 2 ≤ 30 * 1
    omega
  | .str x, h => by
    have h' : PyData.strOk x = true ∧ (PyData.str x).shown.length ≤ 28 := by
      have : (PyData.strOk x && decide ((PyData.str x).shown.length ≤ 28)) = true := h
      simpa using this
    refine ⟨?_, rfl, by simp [PyData.depth, nodes]⟩
    show (PyData.str x).shown.length + 2 ≤ 30 * 1
    omega
  | .list xs, h => by
    obtain ⟨h1, h2, h3⟩ := shownAll_len xs h
    refine ⟨?_, h2, ?_⟩
    · show (listText (PyData.shownAll xs)).length + 2 ≤ 30 * (nodesAll xs + 1)
      have := list_len (PyData.shownAll xs)
      omega
    · simp only [PyData.depth, nodes]
      omega
  | .tuple xs, h => by
    obtain ⟨h1, h2, h3⟩ := shownAll_len xs h
    refine ⟨?_, h2, ?_⟩
    · show (tupleText (PyData.shownAll xs)).length + 2 ≤ 30 * (nodesAll xs + 1)
      have := tup_len (PyData.shownAll xs)
      omega
    · simp only [PyData.depth, nodes]
      omega
  | .dict _, h => by cases h
theorem shownAll_len : ∀ xs : List D, smallAll xs = true → piled (PyData.shownAll xs) ≤ 30 * nodesAll xs ∧ PyData.showableAll xs = true ∧ PyData.depthAll xs ≤ nodesAll xs
  | [], _ => ⟨by simp [PyData.shownAll, piled], rfl, by simp [PyData.depthAll]⟩
  | x :: xs, h => by
    have h' : smallB x = true ∧ smallAll xs = true := by
      have : (smallB x && smallAll xs) = true := h
      simpa using this
    obtain ⟨a1, a2, a3⟩ := shown_len x h'.1
    obtain ⟨b1, b2, b3⟩ := shownAll_len xs h'.2
    refine ⟨?_, ?_, ?_⟩
    · show piled (x.shown :: PyData.shownAll xs) ≤ 30 * (nodes x + nodesAll xs)
      rw [piled_cons]
      omega
    · show (x.showable && PyData.showableAll xs) = true
      rw [a2, b2]
      rfl
    · show _ ≤ nodes x + nodesAll xs
      simp only [PyData.depthAll]
      omega
end
theorem repr_ok {d : D} (h : smallB d = true) (hn : nodes d ≤ 30000) (hd : d.depth ≤ 50) : reprD d = some (.str d.shown) := by
  obtain ⟨a, b, c⟩ := shown_len d h
  unfold reprD
  rw [if_pos ⟨b, by omega, hd⟩]
/-! ### drawing mirrors' shapes -/
theorem small_ok {ds : List D} (h : ds.length ≤ 1000000) : small ds = some ds := by
  unfold small
  rw [if_pos h]
theorem rangeL_length (lo : Int) (n : Nat) : (rangeL lo n).length = n := by simp [rangeL]
theorem range1_ok {k : Int} (h1 : k < 2 ^ 62) (h0 : -(2 ^ 62) < k) : rangeD1 (.int k) = some (rangeL 0 k.toNat) := by
  show (if k.natAbs < 2 ^ 62 then some (rangeL 0 k.toNat) else none) = _
  rw [if_pos (by omega)]
theorem ints_ex {P : Int → Prop} : ∀ es : List D, (∀ e ∈ es, ∃ r : Int, e = .int r ∧ P r) → ∃ rs : List Int, es = rs.map .int ∧ ∀ r ∈ rs, P r
  | [], _ => ⟨[], rfl, fun r h => by simp at h⟩
  | e :: es, h => by
    obtain ⟨r, rfl, hr⟩ := h e List.mem_cons_self
    obtain ⟨rs, rfl, hs⟩ := ints_ex es fun e he => h e (List.mem_cons_of_mem _ he)
    exact ⟨r :: rs, rfl, fun x hx => (List.mem_cons.mp hx).elim (fun z => z ▸ hr) (hs x)⟩
theorem eq_str (x y : Str) : eqD (.str x) (.str y) = some (.bool (decide (x = y))) := rfl
theorem ne_str (x y : Str) : neD (.str x) (.str y) = some (.bool (!decide (x = y))) := rfl
section
variable {α β : Type} {b c d : Nat}
theorem Tri.st {x : W α} {f : α → W β} {φ : α → Prop} {χ : β → Prop} (h : Tri b x φ) (hf : ∀ a, φ a → Tri (d - b) (f a) χ) (hd : b ≤ d := by decide) : Tri d (x >>= f) χ := (h.bind hf).le (by omega)
end
/-! ### columns -/
abbrev col (rows : List (List Int)) (i : Nat) : List Int := rows.map fun r => r.getD i 0
abbrev cols (rows : List (List Int)) (k : Nat) : List Int := (List.range k).map fun i => (col rows i).sum
theorem at_int {r : List Int} {i : Nat} (h : i < r.length) : getD (tI r) (.int (i : Nat)) = some (.int (r.getD i 0)) := by
  refine atI_at rfl ?_
  rw [List.getElem?_map, List.getElem?_eq_getElem h]
  simp [List.getD, h]
theorem getD_map {r : List Int} {i : Nat} (h : i < r.length) : (r.map PyData.int).getD i .none = .int (r.getD i 0) := by
  simp [List.getD, h]
theorem zip_rows {rows : List (List Int)} {k : Nat} (h1 : 1 ≤ rows.length) (h4 : rows.length ≤ 4) (hk : ∀ r ∈ rows, r.length = k) : zipD (rows.map tI) = some ((List.range k).map fun i => tI (col rows i)) := by
  cases rows with
  | nil => simp at h1
  | cons r rs =>
    have e : r.length = k := hk r List.mem_cons_self
    rw [zipD_old (r := r.map .int) (rs := rs.map fun r => r.map .int) (by rw [rows_of]; rfl)]
    · congr 1
      rw [List.length_map, e]
      refine List.map_congr_left fun i hi => ?_
      have hi' := List.mem_range.mp hi
      have all : ∀ xs : List (List Int), (∀ x ∈ xs, x.length = k) → (xs.map fun r => r.map PyData.int).map (fun x => x.getD i .none) = (col xs i).map .int := by
        intro xs hx
        rw [List.map_map, List.map_map]
        refine List.map_congr_left fun x hxm => ?_
        exact getD_map (by rw [hx x hxm]; exact hi')
      have := all (r :: rs) hk
      simp only [List.map_cons] at this
      exact congrArg PyData.tuple this
    · simp at h4 ⊢; omega
    · intro x hx
      obtain ⟨y, hy, rfl⟩ := List.mem_map.mp hx
      rw [List.length_map, List.length_map, e, hk y (List.mem_cons_of_mem _ hy)]
      exact Nat.le_refl _
theorem ob_pure {α β : Type} (a : α) (f : α → Option β) : ((Pure.pure a : Option α) >>= f) = f a := rfl
theorem ob_some {α β : Type} (a : α) (f : α → Option β) : (some a >>= f) = f a := rfl
theorem ob_lift {α : Type} (o : Option α) : (Mo.lift o : Option α) = o := rfl
section
variable {γ : Type}
theorem lcA_mapM {f : D → Option D} {F G : γ → D} (xs : List γ) (acc : List D) (h : ∀ x ∈ xs, f (F x) = some (G x)) : lcA (m := Option) (fun d => someM (f d)) (xs.map F) acc = some (acc ++ xs.map G) := by
  induction xs generalizing acc with
  | nil => simp [lcA]
  | cons x xs ih =>
    show ((f (F x) >>= fun y => Pure.pure (some y)) >>= fun o => lcA (m := Option) (fun d => someM (f d)) (xs.map F) (acc ++ o.toList)) = _
    rw [h x List.mem_cons_self]
    show lcA (m := Option) (fun d => someM (f d)) (xs.map F) (acc ++ [G x]) = _
    rw [ih (acc ++ [G x]) fun y hy => h y (List.mem_cons_of_mem _ hy)]
    simp
end
section
variable {b c d : Nat}
theorem Tri.nx {A : Type} {a : A} {I : A → Prop} {R : D → Prop} (h : I a) : Tri d (Pure.pure (Fl.nx a) : W (Fl A)) (Post I R) := (Tri.pure (φ := Post I R) (a := Fl.nx a) h).le (Nat.zero_le _)
theorem Tri.rt {A : Type} {v : D} {I : A → Prop} {R : D → Prop} (h : R v) : Tri d (Pure.pure (Fl.rt v) : W (Fl A)) (Post I R) := (Tri.pure (φ := Post I R) (a := Fl.rt v) h).le (Nat.zero_le _)
end
theorem sum_in {B : Int} : ∀ l : List Int, (∀ x ∈ l, 0 ≤ x ∧ x ≤ B) → 0 ≤ l.sum ∧ l.sum ≤ l.length * B
  | [], _ => by simp
  | x :: l, h => by
    have h1 := sum_in l fun y hy => h y (List.mem_cons_of_mem _ hy)
    have h2 := h x List.mem_cons_self
    rw [List.sum_cons, List.length_cons]
    have e : ((l.length + 1 : Nat) : Int) * B = l.length * B + B := by
      rw [Int.natCast_add, Int.add_mul]
      simp
    omega
theorem getD_in {P : Int → Prop} {r : List Int} {i : Nat} (h : ∀ x ∈ r, P x) (hi : i < r.length) : P (r.getD i 0) := by
  have e : r.getD i 0 = r[i] := by simp [List.getD, hi]
  rw [e]
  exact h _ (List.getElem_mem hi)
end DD
namespace DD
open PySem PySem.Spec PyProof.Rows L2
/-! ### enumerate(tuple) -/
def enO (it : Addr) : Obj := { cls := .type "enumerate", data := .fields #[.none, .bool false, .ref it, rawInt 0, .none, .none] }
def tiO (l : Addr) : Obj := { cls := .type "tuple_iterator", data := .fields #[.ref l, .int 0 0] }
theorem meets_enT (l : Addr) (items : Array Value) : Meets (Builtin.«enumerate.__new__» ⟨[.type "enumerate", .ref l], []⟩) (fun _ R s => s.heap.IsTuple l items ∧ R (.ok (.ret (.ref (s.heap.push (tiO l)).objs.size))) { s with heap := (s.heap.push (tiO l)).push (enO s.heap.objs.size) }) :=
  .of_wp fun prog w A R s h => by
    obtain ⟨hp, g, d, tk, os⟩ := s
    obtain ⟨hl, h⟩ := h
    have hsub := sub_enumerate
    have q1 : ∀ {A' : Around} {E : Value → Shared → Prop} {Q : Value → Shared → Prop}, Q (.ref hp.objs.size) ⟨hp.push (tiO l), g, d, tk, os⟩ → wpAny (model prog w) A' (pyIter (.ref l)) Q E ⟨hp, g, d, tk, os⟩ := fun q => wpAny_pyIter_tuple hl q
    wp_walk using q1
    refine wpAny_stack_any fun st => wpAny_pure ?_
    split
    · rename_i c _ _ _ _ _
      cases (c == Value.type "enumerate") <;> (wp_walk using q1; exact ⟨_, rfl, h⟩)
    · wp_walk using q1
      exact ⟨_, rfl, h⟩
section
variable {prog : Program} {w : World} {A : Around} {E : Value → Shared → Prop} {s : Shared}
theorem call_enT {l : Addr} {items : Array Value} {Q : Value → Shared → Prop} (hL : s.heap.IsTuple l items)
    (h : ∀ h', IsEnum h' (s.heap.objs.size + 1) s.heap.objs.size 0 .none → h'.IsTupleIter s.heap.objs.size l 0 → (∀ b o, s.heap.get? b = some o → h'.get? b = some o) → Q (.ref (s.heap.objs.size + 1)) { s with heap := h' }) : wpAny (model prog w) A (call (.type "enumerate") [.ref l]) Q E s := by
  refine callType_new F.called_enumerate (by decide) (F.typeCall_enumerate_1 _) (F.newCall_enumerate_1 _) (fun obj => F.args_object_init_2 obj _) F.entry_enumerate_new (meets_enT l items) ⟨hL, ?_⟩
  have hz : (s.heap.push (tiO l)).objs.size = s.heap.objs.size + 1 := Heap.size_push ..
  show _ ∧ _
  rw [hz]
  have he : IsEnum ((s.heap.push (tiO l)).push (enO s.heap.objs.size)) (s.heap.objs.size + 1) s.heap.objs.size 0 .none := by
    have := Heap.get?_push_size (s.heap.push (tiO l)) (o := enO s.heap.objs.size) rfl
    rw [hz] at this
    exact this
  exact ⟨⟨_, he, rfl⟩, h _ he ⟨_, Heap.get?_push_of_some _ (Heap.get?_push_size _ rfl), rfl, rfl⟩ fun b o x => Heap.get?_push_of_some _ (Heap.get?_push_of_some _ x)⟩
theorem draws_tup {it l : Addr} {items : Array Value} (hh : A.handled = none) (hne : l ≠ it) : Draws prog w A it [it, l] items.size (fun i x => items[i]? = some x) (fun i h => h.IsTupleIter it l i ∧ h.IsTuple l items) where
  live := fun i h st => let ⟨⟨o, e, _⟩, _⟩ := st; ⟨o, e⟩
  frame := fun i h h' st k => let ⟨⟨o, e, r⟩, ⟨o2, e2, r2⟩⟩ := st; ⟨⟨o, k it (by simp) o e, r⟩, ⟨o2, k l (by simp) o2 e2, r2⟩⟩
  item := fun i s Q E hi st hQ => by
    refine wpAny_nextOf_tuple_item st.1 st.2 (x := items[i]) (Array.getElem?_eq_getElem hi) fun h' hi' sb => hQ _ h' s.toks (Array.getElem?_eq_getElem hi) ⟨hi', ?_⟩ sb
    obtain ⟨o2, e2, r2⟩ := st.2
    exact ⟨o2, (sb.2 l hne).trans e2, r2⟩
  done := fun s Q E st hE => wpAny_nextOf_tuple_end hh st.1 st.2 (by simp) hE
end
def IteT (K : PySem.W.Frag) (a : Addr) : It :=
  ⟨fun i H => ∃ (xs : List V) (x : V), SqT K H a xs ∧ xs[i]? = some x, fun i H v H' => ∃ T x, v = .ref T ∧ H T = none ∧ H' = upd H T (.tup [.int (i : Nat), x]) ∧ ∀ xs, SqT K H a xs → xs[i]? = some x, fun i H => ∃ xs : List V, SqT K H a xs ∧ xs.length ≤ i⟩
theorem turn_enT {P : Program} {w : World} {K : PySem.W.Frag} {elts : List Expr} {kk : Nat} {tpos : Pos} {a e it : Addr} (hai : a ≠ it) (hae : a ≠ e) (hei : e ≠ it) :
    Turn P w K (.Tuple elts kk tpos) (IteT K a) [e, it] e (fun i h => (∃ old, IsEnum h e it ((i : Nat) : Int) old) ∧ h.IsTupleIter it a i) where
  mem := by simp
  obj := fun i h st b hb => by
    obtain ⟨⟨old, he⟩, ⟨o, ho, hc, hd⟩⟩ := st
    rcases List.mem_cons.mp hb with rfl | hb
    · exact ⟨_, he, fun v q => nomatch q⟩
    · rw [List.mem_singleton.mp hb]
      exact ⟨o, ho, fun v q => by rw [hd] at q; cases q⟩
  keep := fun i h h' st k => let ⟨⟨old, he⟩, ⟨o, ho, r⟩⟩ := st; ⟨⟨old, k e (by simp) _ he⟩, ⟨o, k it (by simp) o ho, r⟩⟩
  item := by
    intro X hP hw hK hc i pins s σ H E I hf st hg
    subst hP hw hK
    obtain ⟨⟨old, he⟩, hit⟩ := st
    obtain ⟨xs, x, hq, hx⟩ := hg
    obtain ⟨its, rv, p, hz⟩ := I.tuple hq
    obtain ⟨u, hu, ru⟩ := rv.get hx
    have hel : e < s.heap.objs.size := Heap.lt_size he
    have hil : it < s.heap.objs.size := by obtain ⟨_, q, _⟩ := hit; exact Heap.lt_size q
    have hlt : i < its.toArray.size := by simpa using (List.getElem?_eq_some_iff.mp hu).1
    refine wpAny_pyNext_enum_itemD (draws_tup (I.ok.hd hc) hai) he (i := i) ⟨hit, p⟩ hlt hei (by simp [hei]; exact fun z => hae z.symm) fun y h' tk hy ho st' hT hsz hk => ?_
    have hy' : y = u := by
      have hy2 : its.toArray[i]? = some y := hy
      rw [List.getElem?_toArray, hu] at hy2
      exact (Option.some.inj hy2).symm
    subst hy'
    refine ⟨_, rfl, wpAny_letOwnedTupleGo_enum (s := { s with heap := h', toks := tk + 1 }) ho fun h'' he' sb => ?_⟩
    have hT2 : h''.get? s.heap.objs.size = some { cls := .type "tuple", data := .seq #[.int i tk, y] } := (sb.2 _ (Nat.ne_of_gt hel)).trans hT
    have new : ObjOk X.prog X.w (upd H s.heap.objs.size (.tup [.int (i : Nat), x])) h'' s.heap.objs.size (.tup [.int (i : Nat), x]) :=
      ⟨by show 2 ≤ sizeLine; decide, [.int i tk, y], .cons ⟨_, rfl⟩ (.cons ru .nil), ⟨_, hT2, rfl, _, rfl⟩⟩
    have I1 : Inv X pins σ (upd H s.heap.objs.size (.tup [.int (i : Nat), x])) { s with heap := h'', toks := tk + 1 } :=
      I.turnedNew (t' := tk + 1) (ch := [e, it]) (fun b ob hb q => (sb.2 b (fun z => hb (by simp [z]))).trans (hk b ob (fun z => hb (by simp [z])) (fun z => hb (by simp [z])) q)) hf (Nat.le_refl _) new
    obtain ⟨⟨oi, hoi, ri⟩, _⟩ := st'
    refine ⟨.ref s.heap.objs.size, _, I1, rfl, ⟨_, x, rfl, I.hok.fresh (Nat.le_refl _), rfl, fun ys hy => by rw [I.tuple_inj hy hq]; exact hx⟩, ⟨⟨y, ?_⟩, ⟨oi, (sb.2 it (Ne.symm hei)).trans hoi, ri⟩⟩, fun b hb => ?_⟩
    · rw [show ((i + 1 : Nat) : Int) = (i : Int) + 1 by omega]
      exact he'
    · have hb' : b < s.heap.objs.size := by
        rcases List.mem_cons.mp hb with rfl | hb
        · exact hel
        · rw [List.mem_singleton.mp hb]; exact hil
      rw [upd_ne (Nat.ne_of_lt hb')]
      exact (hf b hb).1
  done := by
    intro X hP hw hK hc i pins s σ H E I hf st hg
    subst hP hw hK
    obtain ⟨⟨old, he⟩, hit⟩ := st
    obtain ⟨xs, hq, hx⟩ := hg
    obtain ⟨its, rv, p, hz⟩ := I.tuple hq
    obtain ⟨f0, f1, f2, f3, f4, f5⟩ := hf it (by simp)
    unfold pyNext
    refine wpAny_bind (wpAny_attempt (wpAny_callSpecial?_slot (name := Str.ofString "__next__") (T := "enumerate") ⟨_, he, rfl⟩ F.slot_enumerate_next (wpAny_call_entry F.slot_enumerate_next (T := "enumerate") ⟨_, he, rfl⟩ F.entry_enumerate_next ?_ (F.args_enumerate_next_1 _))))
    show wpAny _ _ (field (.ref e) 2 >>= _) _ _ _
    refine wpAny_bind (wpAny_field he rfl (x := .ref it) rfl ?_)
    refine wpAny_bind (wpAny_nextOf_tuple_end (I.ok.hd hc) hit p (by simp; have := rv.length; omega) fun h' e2 he' hx' => ?_)
    obtain ⟨o, ho, hcl⟩ := hx'
    refine wpAny_bind (wpAny_isInstance (T := "StopIteration") (b := true) ⟨o, ho, hcl⟩ isSubtype_stop (wpAny_pure ⟨rfl, ?_⟩))
    exact I.turned (t' := s.toks) (fun b o hb q => he' b o hb q) f0 f1 f3 f4 f5
  self := fun A i s Q E st h => let ⟨⟨_, he⟩, _⟩ := st; wpAny_pyIter_enum he h
def iEnS (K : PySem.W.Frag) (ta : TA) : TI := fun σ H R => ta σ H fun vs H1 => ∃ a xs, vs = [.ref a] ∧ ((SqL K H1 a xs ∧ R (Ite K a) H1) ∨ (SqT K H1 a xs ∧ R (IteT K a) H1))
theorem pi_enS {X : Cx} {e : Expr} {ta : TA} {p pos tpos : Pos} {elts : List Expr} {kk : Nat} (hg : Gl X "enumerate") (hm : X.mg "enumerate" = none) (ha : PA X [e] ta) (hs : starEach [e] X.env = [(false, eval e X.env)] := by rfl) : PI X (.Tuple elts kk tpos) (.Call (.Name "enumerate" p) [e] [] pos) (iEnS X.K ta) := by
  refine ⟨fun pins s σ H R I h => Call_ (ld_blt I hg hm boot_enumerate (PyProof.Rows.callWith_type1 (thn (ha.run pos pins s σ H _ I h) fun us s1 ⟨vs, H1, I1, r1, q1⟩ => ?_) hs rfl))⟩
  obtain ⟨a, xs, rfl, q1⟩ := q1
  cases r1 with
  | cons r rr =>
    cases rr
    cases r
    have fp : ∀ b : Nat, b ∈ [s1.heap.objs.size + 1, s1.heap.objs.size] → FpOk X pins H1 b := fun b hb => by
      have hle : s1.heap.objs.size ≤ b := by
        rcases List.mem_cons.mp hb with z | z
        · rw [z]; omega
        · rw [List.mem_singleton.mp z]; omega
      exact I1.fpOk hle (I1.hok.fresh hle)
    rcases q1 with ⟨hq, q⟩ | ⟨hq, q⟩
    · obtain ⟨its, rv, p', hz⟩ := I1.list hq
      exact call_enumerate_list p'.isList fun h' he hit hsz hk => wpAny_pyIter_enum he ⟨s1.heap.objs.size + 1, [s1.heap.objs.size + 1, s1.heap.objs.size], _, _, H1, rfl, I1.kept (t' := s1.toks) hk, turn_enum a (s1.heap.objs.size + 1) s1.heap.objs.size, ⟨⟨.none, he⟩, hit, Nat.succ_ne_self _⟩, fp, q⟩
    · obtain ⟨its, rv, p', hz⟩ := I1.tuple hq
      have hl : a < s1.heap.objs.size := by obtain ⟨o, ho, _⟩ := p'; exact Heap.lt_size ho
      exact call_enT p' fun h' he hit hk => wpAny_pyIter_enum he ⟨s1.heap.objs.size + 1, [s1.heap.objs.size + 1, s1.heap.objs.size], _, _, H1, rfl, I1.kept (t' := s1.toks) hk, turn_enT (Nat.ne_of_lt hl) (Nat.ne_of_lt (Nat.lt_succ_of_lt hl)) (Nat.succ_ne_self _), ⟨⟨.none, he⟩, hit⟩, fp, q⟩
def enumL (ds : List D) : List D := ds.zipIdx.map fun p => .tuple [.int (p.2 : Nat), p.1]
theorem enumL_at (ds : List D) (i : Nat) : (enumL ds)[i]? = ds[i]?.map fun d => .tuple [.int (i : Nat), d] := by
  unfold enumL
  rw [List.getElem?_map, List.getElem?_zipIdx]
  cases ds[i]? <;> simp
theorem enumL_len (ds : List D) : (enumL ds).length = ds.length := by simp [enumL]
theorem walkD_en {K : PySem.W.Frag} {G : Hp} {xs : List V} {ds : List D} {J : It} (da : DaAll K G xs ds) (hgo : ∀ i H, i < xs.length → SubM G H → J.go i H) (hst : ∀ H, SubM G H → J.stop xs.length H)
    (hy : ∀ i H v H', SubM G H → J.yld i H v H' → ∃ T x, v = .ref T ∧ H T = none ∧ H' = upd H T (.tup [.int (i : Nat), x]) ∧ xs[i]? = some x) : WalkD K G J (enumL ds) where
  goes := fun i H hi s => hgo i H (by rw [da.length, ← enumL_len]; exact hi) s
  stops := fun H s => by rw [enumL_len, ← da.length]; exact hst H s
  yields := fun i H G1 v H' hi s s1 y => by
    obtain ⟨T, x, rfl, hT, rfl, hx⟩ := hy i H v H' (s.subm s1) y
    obtain ⟨d, e1, e2⟩ := da.getV hx
    have gr := Gr.alloc (u := .tup [.int (i : Nat), x]) s1 hT
    refine ⟨.tuple [.int (i : Nat), d], _, by rw [enumL_at, e1]; rfl, gr, .tup (.inl (.inl upd_same)) (.cons (.int _) (.cons (e2.mono (s.trans gr.g)) .nil))⟩
section
variable {m : Type → Type} [Mo m] {X : Cx} {EX : XR} {g : List Sl}
abbrev enumM (x : m D) : m (List D) := x >>= fun d => Mo.lift ((itemsD d).map enumL)
theorem ij_enum {e : Expr} {p pos tpos : Pos} {elts : List Expr} {kk : Nat} {x : m D} (hm : X.mg "enumerate" = none) (h : EJ X EX e g x) (hg : Gl X "enumerate" := by rfl) (hs : starEach [e] X.env = [(false, eval e X.env)] := by rfl) (hs' : starEach [e] X.env = (false, eval e X.env) :: starEach [] X.env := by rfl) :
    IJ X EX (.Tuple elts kk tpos) (.Call (.Name "enumerate" p) [e] [] pos) g (enumM x) :=
  (pi_enS hg hm (pa_cons h pa_nil hs') hs).weak fun σ H R ⟨B, G, n, φ, ξ, o, s, q, xw⟩ => te_one o s (fun v H1 G1 d n1 o1 g1 d1 s1 => by
    obtain ⟨out, ed, pd⟩ := Mo.sat_lift s1
    obtain ⟨ds, e1, rfl⟩ := Option.map_eq_some_iff.mp ed
    obtain ⟨a, xs, rfl, sq, da⟩ := d1.seq e1
    refine ⟨a, xs, rfl, ?_⟩
    rcases sq with sq | sq
    · refine .inr ⟨sameT o1.fm.sub sq, q _ H1 G1 _ n1 o1 g1 (walkD_en da (fun i H hi s => ⟨xs, xs[i], sameT s sq, by simp [hi]⟩) (fun H s => ⟨xs, sameT s sq, Nat.le_refl _⟩) fun i H v H' s y => ?_) pd⟩
      obtain ⟨T, x, a1, a2, a3, a4⟩ := y
      exact ⟨T, x, a1, a2, a3, a4 xs (sameT s sq)⟩
    · refine .inl ⟨o1.fm.sub.seq sq, q _ H1 G1 _ n1 o1 g1 (walkD_en da (fun i H hi s => ⟨xs, xs[i], s.seq sq, by simp [hi]⟩) (fun H s => ⟨xs, s.seq sq, Nat.le_refl _⟩) fun i H v H' s y => ?_) pd⟩
      obtain ⟨T, x, a1, a2, a3, a4⟩ := y
      exact ⟨T, x, a1, a2, a3, a4 xs (s.seq sq)⟩) xw
end
end DD
namespace DD
open PySem PySem.Spec PyProof.Rows L2
/-! ### a list of one's own, read in the middle: what comes out holds no list -/
mutual
def noL : D → Bool
  | .list _ => false
  | .tuple xs => noLs xs
  | .dict _ => false
  | _ => true
def noLs : List D → Bool
  | [] => true
  | x :: xs => noL x && noLs xs
end
def flatO (d : D) : Option D := if noL d = true then some d else none
/-- the data among what has come: what stood in the heap and was no data is left out -/
noncomputable def cutB (H G G' : Hp) : Hp := fun a => open Classical in if G a = none ∧ H a ≠ none then none else G' a
theorem cutB_in {H G G' : Hp} {a : Addr} (h : ¬ (G a = none ∧ H a ≠ none)) : cutB H G G' a = G' a := by unfold cutB; rw [if_neg h]
theorem cutB_out {H G G' : Hp} {a : Addr} (h1 : G a = none) (h2 : H a ≠ none) : cutB H G G' a = none := by unfold cutB; rw [if_pos ⟨h1, h2⟩]
theorem cutB_sub {H G G' : Hp} {a : Addr} {o : HO} (h : cutB H G G' a = some o) : G' a = some o := by
  unfold cutB at h
  split at h
  · cases h
  · exact h
def lend1 : Sl → Sl
  | .own ds => .val (.list ds)
  | s => s
abbrev lendG (g : List Sl) : List Sl := g.map lend1
section
variable {K : PySem.W.Frag} {H G G' : Hp}
mutual
theorem Da.cut (hp : ∀ a o, G' a = some o → G a = none → H a ≠ none → ∃ xs, o = .lst xs) : ∀ {d : D} {v : V}, noL d = true → Da K G' v d → Da K (cutB H G G') v d
  | _, _, _, .non => .non
  | _, _, _, .bl b => .bl b
  | _, _, _, .int i => .int i
  | _, _, _, .str x => .str x
  | _, _, h, .lst _ _ => by cases h
  | .tuple ds, _, h, .tup sq a => by
    refine .tup ?_ (DaAll.cutA hp (show noLs ds = true from h) a)
    rcases sq with (sq | ⟨o, sq⟩) | sq
    · refine .inl (.inl ((cutB_in fun z => ?_).trans sq))
      obtain ⟨xs, e⟩ := hp _ _ sq z.1 z.2
      cases e
    · refine .inl (.inr ⟨o, (cutB_in fun z => ?_).trans sq⟩)
      obtain ⟨xs, e⟩ := hp _ _ sq z.1 z.2
      cases e
    · exact .inr sq
  | _, _, h, .dct _ _ => by cases h
  | _, _, h, .obj _ => by cases h
  | _, _, h, .cel _ => by cases h
  | _, _, h, .fin _ _ _ _ => by cases h
theorem DaAll.cutA (hp : ∀ a o, G' a = some o → G a = none → H a ≠ none → ∃ xs, o = .lst xs) : ∀ {ds : List D} {vs : List V}, noLs ds = true → DaAll K G' vs ds → DaAll K (cutB H G G') vs ds
  | _, _, _, .nil => .nil
  | d :: ds, _, h, .cons a b => by
    have h' : noL d = true ∧ noLs ds = true := by
      have : (noL d && noLs ds) = true := h
      simpa using this
    exact .cons (Da.cut hp h'.1 a) (DaAll.cutA hp h'.2 b)
end
end
section
variable {m : Type → Type} [Mo m] {X : Cx} {EX : XR} {g : List Sl}
/-- all lists of one's own become data, a while -/
theorem Ok.lend {K : PySem.W.Frag} {B : Bs} {σ : L2.St} {H G : Hp} {n : Wd} (o : Ok K B g σ H G n) (hn0 : n.ob = []) : ∃ G1 : Hp, Ok K ⟨H, G1, B.dk, G1⟩ (lendG g) σ H G1 n ∧
    ∀ (H' G' : Hp) (n' : Wd), n'.ob = [] → Fm K ⟨H, G1, B.dk, G1⟩ H' G' n' → (Ok K B g σ H' (cutB H G G') n' ∧ Same G (cutB H G G')) ∧ ∀ a o, G' a = some o → G a = none → H a ≠ none → ∃ xs, o = .lst xs := by
  classical
  obtain ⟨f, h1, h2⟩ := id o.own
  let OwnA : Addr → Prop := fun a => ∃ (j : Nat) (ds : List D), g[j]? = some (Sl.own ds) ∧ f j = a
  have own_lst : ∀ a, OwnA a → G a = none ∧ B.H a = none ∧ ∃ xs, H a = some (.lst xs) := by
    rintro a ⟨j, ds, e, rfl⟩
    obtain ⟨_, b, c, xs, d, _⟩ := h2 j ds e
    exact ⟨b, c, xs, d⟩
  let G1 : Hp := fun a => if OwnA a then H a else G a
  have g1o : ∀ a, OwnA a → G1 a = H a := fun a h => if_pos h
  have g1n : ∀ a, ¬ OwnA a → G1 a = G a := fun a h => if_neg h
  have sG : Same G G1 := fun a u e => by
    rw [g1n a fun z => by rw [(own_lst a z).1] at e; cases e]
    exact e
  have nomk : ∀ a u, G a = some u → isMk u = false := fun a u e => by
    cases hm : mkOf u with
    | none => unfold isMk; rw [hm]; rfl
    | some k =>
      obtain ⟨c, e2, _⟩ := o.fm.obs.at_ a u k e hm
      rw [hn0] at e2
      cases e2
  have sH : SubM G1 H := ⟨fun a u e m => by
    by_cases z : OwnA a
    · rw [g1o a z] at e; exact e
    · rw [g1n a z] at e; exact o.fm.sub.h a u e m, fun a e => by
    by_cases z : OwnA a
    · rw [g1o a z]; exact e
    · rw [g1n a z]; exact o.fm.sub.t a e⟩
  have mk1 : ∀ a u k, G1 a = some u → mkOf u = some k → False := fun a u k e hm => by
    by_cases z : OwnA a
    · obtain ⟨_, _, xs, hx⟩ := own_lst a z
      rw [g1o a z, hx] at e
      cases e
      cases hm
    · rw [g1n a z] at e
      have := nomk a u e
      unfold isMk at this
      rw [hm] at this
      cases this
  have ob1 : Obs K H G1 n := ⟨fun a u k e hm => (mk1 a u k e hm).elim, fun a b u w k e _ hm => (mk1 a u k e hm).elim, fun k c e => by rw [hn0] at e; cases e⟩
  have pick : ∀ (i : Nat) (s : Sl), (lendG g)[i]? = some s → ∃ s0, g[i]? = some s0 ∧ s = lend1 s0 := fun i s e => by
    rw [List.getElem?_map] at e
    obtain ⟨s0, e0, e1⟩ := Option.map_eq_some_iff.mp e
    exact ⟨s0, e0, e1.symm⟩
  refine ⟨G1, ⟨⟨fun a u e _ => e, sH, Same.refl _, ob1, sH.t, Same.refl _, fun a _ e => e, fun a b e => ?_⟩, by rw [List.length_map]; exact o.len, fun i d e => ?_, ⟨f, fun i j ds es e => ?_, fun i ds e => ?_⟩, fun i e => ?_, fun i a od fs e => ?_, fun i f F e => ?_⟩, fun H' G' n' hn1 fm => ?_⟩
  · obtain ⟨dk, b1, b2, b3, b4⟩ := o.fm.deck a b e
    obtain ⟨cs, c, k1, k2, _⟩ := id dk
    have na : ¬ OwnA a := fun z => b1 (own_lst a z).2.1
    have nb : ¬ OwnA b := fun z => b2 (own_lst b z).2.1
    refine ⟨dk, by show H a ≠ none; rw [k1]; simp, by show H b ≠ none; rw [k2]; simp, ?_, ?_⟩
    · show G1 a = none
      rw [g1n a na]; exact o.fm.new a b1 b3
    · show G1 b = none
      rw [g1n b nb]; exact o.fm.new b b2 b4
  · obtain ⟨s0, e0, e1⟩ := pick i _ e
    cases s0 with
    | val d0 =>
      cases e1
      obtain ⟨v, a, b⟩ := o.val i d e0
      exact ⟨v, a, b.mono sG⟩
    | own ds =>
      cases e1
      obtain ⟨a, b, c, xs, hd, da⟩ := h2 i ds e0
      refine ⟨_, a, .lst (xs := xs) ?_ (da.mono sG)⟩
      rw [g1o _ ⟨i, ds, e0, rfl⟩]
      exact hd
    | deck => cases e1
    | any => cases e1
    | exn _ _ _ => cases e1
    | fn _ _ => cases e1
  · obtain ⟨s0, e0, e1⟩ := pick i _ e
    cases s0 <;> cases e1
  · obtain ⟨s0, e0, e1⟩ := pick i _ e
    cases s0 <;> cases e1
  · obtain ⟨s0, e0, e1⟩ := pick i _ e
    cases s0 with
    | deck => exact o.dck i e0
    | val _ => cases e1
    | own _ => cases e1
    | any => cases e1
    | exn _ _ _ => cases e1
    | fn _ _ => cases e1
  · obtain ⟨s0, e0, e1⟩ := pick i _ e
    cases s0 with
    | exn _ _ _ => cases e1; exact ⟨(o.adr i a od fs e0).1, (o.adr i a od fs e0).2.mono sG⟩
    | val _ => cases e1
    | own _ => cases e1
    | any => cases e1
    | deck => cases e1
    | fn _ _ => cases e1
  · obtain ⟨s0, e0, e1⟩ := pick i _ e
    cases s0 with
    | fn f F =>
      cases e1
      obtain ⟨z1, z2, z3⟩ := o.fnc i f F e0
      exact ⟨z1, z3 _ _ sG z2, z3⟩
    | val _ => cases e1
    | own _ => cases e1
    | any => cases e1
    | deck => cases e1
    | exn _ _ _ => cases e1
  · have lst : ∀ a u, G' a = some u → G a = none → H a ≠ none → ∃ xs, u = .lst xs := fun a u e ga ha => by
      by_cases z : OwnA a
      · obtain ⟨_, _, xs, hx⟩ := own_lst a z
        have : G' a = some (.lst xs) := fm.old a _ (by show G1 a = _; rw [g1o a z]; exact hx)
        rw [this] at e
        cases e
        exact ⟨xs, rfl⟩
      · have : G' a = none := fm.new a ha (by show G1 a = none; rw [g1n a z]; exact ga)
        rw [this] at e; cases e
    have fm2 : Fm K ⟨H, G, B.dk, G⟩ H' (cutB H G G') n' := by
      have mk2 : ∀ a u k, cutB H G G' a = some u → mkOf u = some k → False := fun a u k e hm => by
        obtain ⟨c, e2, _⟩ := fm.obs.at_ a u k (cutB_sub e) hm
        rw [hn1] at e2
        cases e2
      refine ⟨fun a u e q => fm.keep a u e fun z => q ?_, ⟨fun a u e m => fm.sub.h a u (cutB_sub e) m, fun a e => ?_⟩, fun a u e => ?_, ⟨fun a u k e hm => (mk2 a u k e hm).elim, fun a b u w k e _ hm => (mk2 a u k e hm).elim, fun k c e => by rw [hn1] at e; cases e⟩, o.fm.sub.t, (fun a u e => by
        rw [cutB_in fun z => by rw [show G a = some u from e] at z; cases z.1]
        exact fm.old a u (sG a u e)), fun a e q => cutB_out q e, fun a b e => ?_⟩
      · rcases z with z | ⟨w, e2, m⟩
        · exact .inl z
        · have e' : G1 a = some w := e2
          cases hm : mkOf w with
          | none => unfold isMk at m; rw [hm] at m; cases m
          | some k => exact (mk1 a w k e' hm).elim
      · cases ec : cutB H G G' a with
        | none => rfl
        | some u => have := cutB_sub ec; rw [fm.sub.t a e] at this; cases this
      · rw [cutB_in fun z => by rw [show G a = some u from e] at z; cases z.1]
        exact fm.old a u (sG a u e)
      · obtain ⟨dk, b1, b2, b3, b4⟩ := fm.deck a b e
        obtain ⟨dk', c1, c2, c3, c4⟩ := o.fm.deck a b e
        exact ⟨dk, b1, b2, o.fm.new a c1 c3, o.fm.new b c2 c4⟩
    exact ⟨Fm.back o (.inr rfl) fm2, lst⟩
variable [Calm m] [Plain m]
def flatsO (ds : List D) : Option (List D) := if noLs ds = true then some ds else none
end
/-! ### new lists by operations -/
section
variable {m : Type → Type} [Mo m] {X : Cx} {EX : XR} {g : List Sl}
def repO (ds : List D) (k : D) : Option (List D) := match k with
  | .int k => if 0 ≤ k ∧ k ≤ 1000 ∧ ds.length ≤ 1000 then some (List.replicate k.toNat ds).flatten else none
  | _ => none
def listOnly : D → Option (List D)
  | .list ds => some ds
  | _ => none
/-- [..] * k -/
theorem lj_rep {a b : Expr} {pos : Pos} {x : m (List D)} {y : m D} (ha : LJ X EX a g x) (hb : EJ X EX b g y) : LJ X EX (.BinOp a .Mult b pos) g ((x >>= fun ds => pure (PyData.list ds)) >>= fun d => y >>= fun k => Mo.lift ((listOnly d).bind fun ds => repO ds k)) :=
  (pe_op op_rep (ej_l ha) hb).weak fun σ H Q ⟨B, G, n, φ, ξ, o, s, q, xw⟩ => te_one o s (fun v H1 G1 d n1 o1 g1 d1 s1 => te_one o1 s1 (fun w H2 G2 k n2 o2 g2 d2 s2 => by
    obtain ⟨out, eo, po⟩ := Mo.sat_lift s2
    obtain ⟨ds, e1, e2⟩ := Option.bind_eq_some_iff.mp eo
    cases k with
    | int k =>
      cases d2
      have e2' : (if 0 ≤ k ∧ k ≤ 1000 ∧ ds.length ≤ 1000 then some (List.replicate k.toNat ds).flatten else none) = some out := e2
      split at e2'
      · rename_i hk
        cases e2'
        cases d with
        | list ds' =>
          cases e1
          obtain ⟨a, xs, rfl, ha', da⟩ := (d1.mono g2).toL
          refine ⟨a, k, xs, rfl, rfl, o2.fm.sub.h _ _ ha' rfl, by omega, by omega, ?_, fun p hp => ?_⟩
          · rw [da.length]
            have : ds.length * k.toNat ≤ 1000 * 1000 := Nat.mul_le_mul hk.2.2 (by omega)
            exact Nat.le_trans this (by decide)
          · obtain ⟨f1, f2⟩ := o2.fresh hp
            exact q p _ _ G2 _ n2 (o2.raw hp) (g1.trans g2) f1 (o2.free hp) upd_same f2 (da.flatReplicate k.toNat) po
        | _ => cases e1
      · cases e2'
    | _ => cases e2) xw) xw
/-- range(..) as what list() takes -/
def lrgO1 : D → Option (List D)
  | .int j => if 0 ≤ j ∧ j ≤ 1000000 then some (rangeL 0 j.toNat) else none
  | _ => none
abbrev repM (x : m (List D)) (y : m D) : m (List D) := (x >>= fun ds => pure (PyData.list ds)) >>= fun d => y >>= fun k => Mo.lift ((listOnly d).bind fun ds => repO ds k)
abbrev lrg1M (x : m D) : m (List D) := x >>= fun d => Mo.lift (lrgO1 d)
abbrev par3M (x y z : m D) : m (D × D × D) := x >>= fun d => y >>= fun e => z >>= fun f => pure (d, e, f)
abbrev rdM (x : m D) : m D := x >>= fun d => Mo.lift (flatO d)
abbrev rdLM (x : m (List D)) : m (List D) := x >>= fun ds => Mo.lift (flatsO ds)
end
def addI : D → D → Option D := intD2 fun i j => some (.int (i + j))
def subI : D → D → Option D := intD2 fun i j => some (.int (i - j))
section
variable {m : Type → Type} [Mo m] {X : Cx} {EX : XR} {g : List Sl}
/-- as ej_var, the slot looked up by the kernel -/
theorem ej_vk (i : Nat) {x : Str} {pos : Pos} {d : D} (hs : g[i]? = some (Sl.val d) := by kernel_rfl) (hN : X.N[i]? = some x := by rfl) (hv : Vis X.env.scope x := by first | exact Or.inl rfl | exact Or.inr (Or.inl rfl) | exact Or.inr (Or.inr rfl)) (hd : (x == ("__debug__" : Str)) = false := by decide)
    (hcd : (x == ("__classdict__" : Str)) = false := by decide) : EJ (m := m) X EX (.Name x pos) g (pure d) := ej_var i hs hN hv hd hcd
end
end DD
namespace DD
open PySem PySem.Spec PyProof.Rows L2
/-! ### mirrors without draws, by equations -/
class MoL (m : Type → Type) [Mo m] : Prop where
  pb : ∀ {α β : Type} (a : α) (f : α → m β), ((pure a : m α) >>= f) = f a
  as : ∀ {α β γ : Type} (x : m α) (f : α → m β) (g : β → m γ), ((x >>= f) >>= g) = (x >>= fun a => f a >>= g)
  ls : ∀ {α : Type} (a : α), (Mo.lift (some a) : m α) = pure a
theorem wl_some {α : Type} (a : α) : (Mo.lift (some a) : W α) = Pure.pure a := by
  funext n φ
  exact propext ⟨fun ⟨b, e, h⟩ => by cases e; exact h, fun h => ⟨a, rfl, h⟩⟩
instance : MoL W := ⟨fun _ _ => rfl, fun _ _ _ => rfl, wl_some⟩
instance : MoL Option := ⟨fun _ _ => rfl, fun x f g => by cases x <;> rfl, fun _ => rfl⟩
section
variable {m : Type → Type} [Mo m] [MoL m] {A γ : Type}
theorem lcA_mapP {f : D → m D} {F G : γ → D} : ∀ (xs : List γ) (acc : List D), (∀ x ∈ xs, f (F x) = pure (G x)) → lcA (fun d => someM (f d)) (xs.map F) acc = pure (acc ++ xs.map G)
  | [], acc, _ => by simp [lcA]
  | x :: xs, acc, h => by
    show (someM (f (F x)) >>= fun o => lcA (fun d => someM (f d)) (xs.map F) (acc ++ o.toList)) = _
    unfold someM
    rw [h x List.mem_cons_self, MoL.pb, MoL.pb]
    have := lcA_mapP xs (acc ++ [G x]) fun y hy => h y (List.mem_cons_of_mem _ hy)
    unfold someM at this
    show lcA _ (xs.map F) (acc ++ [G x]) = _
    rw [this]
    simp
theorem lcA_filtP {f : D → m D} {t : D → m Bool} {F G : γ → D} {p : γ → Bool} : ∀ (xs : List γ) (acc : List D), (∀ x ∈ xs, t (F x) = pure (p x)) → (∀ x ∈ xs, p x = true → f (F x) = pure (G x)) → lcA (fun d => ifM (t d) (f d)) (xs.map F) acc = pure (acc ++ (xs.filter p).map G)
  | [], acc, _, _ => by simp [lcA]
  | x :: xs, acc, h, h2 => by
    show (ifM (t (F x)) (f (F x)) >>= fun o => lcA (fun d => ifM (t d) (f d)) (xs.map F) (acc ++ o.toList)) = _
    have ih := fun acc => lcA_filtP xs acc (fun y hy => h y (List.mem_cons_of_mem _ hy)) fun y hy => h2 y (List.mem_cons_of_mem _ hy)
    have e : ifM (t (F x)) (f (F x)) = pure (if p x = true then some (G x) else none) := by
      unfold ifM someM
      rw [h x List.mem_cons_self, MoL.pb]
      cases hp : p x with
      | true => simp only [if_true]; rw [h2 x List.mem_cons_self hp, MoL.pb]
      | false => rfl
    rw [e, MoL.pb, ih]
    cases hp : p x <;> simp [hp]
theorem lcA_map2 {f : D → D → m D} {F Ga Gb G : γ → D} (hF : ∀ x, F x = .tuple [Ga x, Gb x]) (xs : List γ) (acc : List D) (h : ∀ x ∈ xs, f (Ga x) (Gb x) = pure (G x)) : lcA (fun d => pairM d fun a b => someM (f a b)) (xs.map F) acc = pure (acc ++ xs.map G) := by
  induction xs generalizing acc with
  | nil => simp [lcA]
  | cons x xs ih =>
    show (pairM (F x) (fun a b => someM (f a b)) >>= fun o => lcA (fun d => pairM d fun a b => someM (f a b)) (xs.map F) (acc ++ o.toList)) = _
    have e : pairM (F x) (fun a b => someM (f a b)) = pure (some (G x)) := by
      rw [hF]
      show someM (f (Ga x) (Gb x)) = _
      unfold someM
      rw [h x List.mem_cons_self, MoL.pb]
    rw [e, MoL.pb, ih _ fun y hy => h y (List.mem_cons_of_mem _ hy)]
    simp
/-- a loop that looks for the first -/
theorem loop_find {f : D → A → m (Fl A)} {F : γ → D} {p : γ → Bool} {R : γ → D} {a : A} : ∀ xs : List γ, (∀ x ∈ xs, f (F x) a = if p x = true then pure (.rt (R x)) else pure (.nx a)) → loopM f (xs.map F) a = pure (match xs.find? p with | some x => .rt (R x) | none => .nx a)
  | [], _ => rfl
  | x :: xs, h => by
    show (f (F x) a >>= fun z => match z with | .nx a' => loopM f (xs.map F) a' | .rt v => pure (.rt v)) = _
    rw [h x List.mem_cons_self]
    cases hp : p x with
    | true => simp only [if_true, MoL.pb, List.find?_cons, hp]
    | false =>
      simp only [Bool.false_eq_true, if_false, MoL.pb, List.find?_cons, hp]
      exact loop_find xs fun y hy => h y (List.mem_cons_of_mem _ hy)
end
section
variable {A γ : Type} {c : Nat}
theorem Tri.eq {α : Type} {b : Nat} {x : W α} {a : α} {φ : α → Prop} (e : x = Pure.pure a) (h : φ a) : Tri b x φ := by
  rw [e]
  exact (Tri.pure h).le (Nat.zero_le _)
end
theorem bindE {m : Type → Type} [Mo m] [MoL m] {α β : Type} {x : m α} {a : α} {f : α → m β} {y : m β} (e : x = pure a) (h : f a = y) : (x >>= f) = y := by
  rw [e, MoL.pb]
  exact h
/-! ### operations on data of known shape -/
theorem add_int (a b : Int) : addD (.int a) (.int b) = some (.int (a + b)) := rfl
theorem sub_int (a b : Int) : subD (.int a) (.int b) = some (.int (a - b)) := rfl
theorem lt_int (a b : Int) : ltD (.int a) (.int b) = some (.bool (decide (a < b))) := rfl
theorem le_int (a b : Int) : leD (.int a) (.int b) = some (.bool (decide (a ≤ b))) := rfl
theorem gt_int (a b : Int) : gtD (.int a) (.int b) = some (.bool (decide (b < a))) := rfl
theorem ge_int (a b : Int) : geD (.int a) (.int b) = some (.bool (decide (b ≤ a))) := rfl
theorem eq_int (a b : Int) : eqD (.int a) (.int b) = some (.bool (a == b)) := rfl
theorem ne_int (a b : Int) : neD (.int a) (.int b) = some (.bool (!(a == b))) := rfl
theorem min_int (a b : Int) : min2D (.int a) (.int b) = some (.int (min a b)) := by
  show some (PyData.int (if b < a then b else a)) = _
  congr 2
  omega
theorem max_int (a b : Int) : max2D (.int a) (.int b) = some (.int (max a b)) := by
  show some (PyData.int (if b > a then b else a)) = _
  congr 2
  omega
theorem neg_int (a : Int) : negD (.int a) = some (.int (-a)) := rfl
theorem bool_bool (b : Bool) : boolD (.bool b) = some b := rfl
theorem not_bool (b : Bool) : notD (.bool b) = some (.bool (!b)) := rfl
theorem is_none (d : D) : isD d .none = some (.bool (isNone d)) := rfl
theorem isn_none (d : D) : isnD d .none = some (.bool (!isNone d)) := rfl
theorem nn_int (i : Int) : isNone (.int i) = false := rfl
theorem nn_none : isNone .none = true := rfl
theorem nn_tup (xs : List D) : isNone (.tuple xs) = false := rfl
theorem len_tup (xs : List D) : lenD (.tuple xs) = some (.int xs.length) := rfl
theorem len_lst (xs : List D) : lenD (.list xs) = some (.int xs.length) := rfl
theorem tup_lst (xs : List D) : tupleD (.list xs) = some (.tuple xs) := rfl
theorem tup_tup (xs : List D) : tupleD (.tuple xs) = some (.tuple xs) := rfl
theorem it_lst (xs : List D) : itemsD (.list xs) = some xs := rfl
theorem it_tup (xs : List D) : itemsD (.tuple xs) = some xs := rfl
theorem int_bool (b : Bool) : intD (.bool b) = some (.int (if b then 1 else 0)) := rfl
theorem int_int (i : Int) : intD (.int i) = some (.int i) := rfl
theorem oint_int (i : Int) : oint (.int i) = some (some i) := rfl
theorem addI_int (a b : Int) : addI (.int a) (.int b) = some (.int (a + b)) := rfl
theorem subI_int (a b : Int) : subI (.int a) (.int b) = some (.int (a - b)) := rfl
theorem fits_ok {k : Nat} (h : k < 1000000) : fits k = some () := by unfold fits; rw [if_pos h]
theorem mod_int {a b : Int} (h : 0 < b) : modD (.int a) (.int b) = some (.int (a % b)) := by
  show (if 0 < b then some (PyData.int (a % b)) else none) = _
  rw [if_pos h]
theorem div_int {a b : Int} (h : 0 < b) (h1 : b < 1073741824) : divD (.int a) (.int b) = some (.int (a / b)) := by
  show (if 0 < b ∧ b.natAbs < 1073741824 then some (PyData.int (a / b)) else none) = _
  rw [if_pos ⟨h, by omega⟩]
theorem mul_int {a b : Int} (h : (-(2 ^ 64) < a ∧ a < 2 ^ 64) ∨ (-(2 ^ 64) < b ∧ b < 2 ^ 64)) : mulD (.int a) (.int b) = some (.int (a * b)) := by
  show (if a.natAbs < 2 ^ 64 ∨ b.natAbs < 2 ^ 64 then some (PyData.int (a * b)) else none) = _
  rw [if_pos (by omega)]
theorem add_tup {a b : List D} (h : a.length + b.length ≤ 1000000) : addD (.tuple a) (.tuple b) = some (.tuple (a ++ b)) := by
  show (small (a ++ b)).map PyData.tuple = _
  rw [small_ok (by rw [List.length_append]; exact h)]
  rfl
theorem range_map (n : Nat) : rangeL 0 n = (List.range n).map fun i : Nat => PyData.int (i : Nat) := by
  unfold rangeL
  refine List.map_congr_left fun i _ => ?_
  rw [Int.zero_add]
theorem range1_nat {k : Int} (h1 : k < 2 ^ 62) (h0 : 0 ≤ k) : rangeD1 (.int k) = some ((List.range k.toNat).map fun i : Nat => PyData.int (i : Nat)) := by
  rw [range1_ok h1 (by omega), range_map]
theorem enum_map {γ : Type} (F : γ → D) (xs : List γ) : enumL (xs.map F) = xs.zipIdx.map fun p => .tuple [.int (p.2 : Nat), F p.1] := by
  unfold enumL
  rw [List.zipIdx_map, List.map_map]
  rfl
theorem zip_map {γ δ : Type} {F : γ → D} {G : δ → D} {xs : List γ} {ys : List δ} (h : xs.length ≤ ys.length) : zipD [.tuple (xs.map F), .tuple (ys.map G)] = some ((xs.zip ys).map fun p => .tuple [F p.1, G p.2]) := by
  rw [zipD_old (r := xs.map F) (rs := [ys.map G]) rfl (by simp) fun x hx => by rw [List.mem_singleton.mp hx]; simpa using h]
  congr 1
  refine List.ext_getElem (by simp; omega) fun i h1 h2 => ?_
  have hi : i < xs.length := by simpa using h1
  have hj : i < ys.length := by omega
  simp [List.getD, hi, hj]
theorem get_tup {γ : Type} {F : γ → D} {xs : List γ} {i : Nat} (h : i < xs.length) : getD (.tuple (xs.map F)) (.int (i : Nat)) = some (F xs[i]) := by
  refine atI_at rfl ?_
  rw [List.getElem?_map, List.getElem?_eq_getElem h]
  rfl
theorem get_lst {γ : Type} {F : γ → D} {xs : List γ} {i : Nat} (h : i < xs.length) : getD (.list (xs.map F)) (.int (i : Nat)) = some (F xs[i]) := by
  refine atI_at rfl ?_
  rw [List.getElem?_map, List.getElem?_eq_getElem h]
  rfl
theorem at_intL {r : List Int} {i : Nat} (h : i < r.length) : getD (.list (r.map .int)) (.int (i : Nat)) = some (.int (r.getD i 0)) := by
  refine atI_at rfl ?_
  rw [List.getElem?_map, List.getElem?_eq_getElem h]
  simp [List.getD, h]
theorem max_tI {r : List Int} {v : Int} (e : r.max? = some v) : maxD (tI r) = some (.int v) := by
  show (intsD (r.map .int)).bind (fun ns => ns.max?.map PyData.int) = _
  rw [ints_of]
  show r.max?.map PyData.int = _
  rw [e]
  rfl
theorem max_lI {r : List Int} {v : Int} (e : r.max? = some v) : maxD (.list (r.map .int)) = some (.int v) := max_tI e
theorem min_tI {r : List Int} {v : Int} (e : r.min? = some v) : minD (tI r) = some (.int v) := by
  show (intsD (r.map .int)).bind (fun ns => ns.min?.map PyData.int) = _
  rw [ints_of]
  show r.min?.map PyData.int = _
  rw [e]
  rfl
theorem min_lI {r : List Int} {v : Int} (e : r.min? = some v) : minD (.list (r.map .int)) = some (.int v) := min_tI e
theorem bools_of {γ : Type} {p : γ → Bool} : ∀ xs : List γ, bools (xs.map fun x => PyData.bool (p x)) = some (xs.map p)
  | [] => rfl
  | x :: xs => by
    show (bools (xs.map fun x => PyData.bool (p x))).map (p x :: ·) = _
    rw [bools_of xs]
    rfl
theorem all_map {γ : Type} {p : γ → Bool} (xs : List γ) : allD (.list (xs.map fun x => .bool (p x))) = some (.bool (xs.all p)) := by
  show (bools (xs.map fun x => PyData.bool (p x))).map _ = _
  rw [bools_of]
  simp [Function.comp_def]
/-! slices -/
/-! no list within -/
theorem noL_map {γ : Type} {F : γ → D} : ∀ xs : List γ, (∀ x ∈ xs, noL (F x) = true) → noLs (xs.map F) = true
  | [], _ => rfl
  | x :: xs, h => by
    show (noL (F x) && noLs (xs.map F)) = true
    rw [h x List.mem_cons_self, noL_map xs fun y hy => h y (List.mem_cons_of_mem _ hy)]
    rfl
theorem noL_ints (r : List Int) : noLs (r.map .int) = true := noL_map r fun _ _ => rfl
theorem flat_ok {d : D} (h : noL d = true) : flatO d = some d := by unfold flatO; rw [if_pos h]
theorem flat_tI (r : List Int) : flatO (tI r) = some (tI r) := flat_ok (noL_ints r)
theorem flat_int (i : Int) : flatO (.int i) = some (.int i) := rfl
theorem flat_none : flatO .none = some .none := rfl
theorem put_at {ds : List D} {i : Nat} {d : D} (h : i < ds.length) : putD ds (.int (i : Nat)) d = some (ds.set i d) := by
  show (ixN ds.length (i : Nat)).map (fun j => ds.set j d) = _
  rw [ixN_at rfl h]
  rfl
/-! ### what repr can show: n nodes, depth k -/
structure Sm (n k : Nat) (d : D) : Prop where
  b : smallB d = true
  n : nodes d ≤ n
  k : d.depth ≤ k
structure SmA (n k : Nat) (ds : List D) : Prop where
  b : smallAll ds = true
  n : nodesAll ds ≤ n
  k : PyData.depthAll ds ≤ k
theorem Sm.repr {n k : Nat} {d : D} (h : Sm n k d) (hn : n ≤ 30000) (hk : k ≤ 50) : reprD d = some (.str d.shown) := repr_ok h.b (Nat.le_trans h.n hn) (Nat.le_trans h.k hk)
theorem Sm.le {n k n' k' : Nat} {d : D} (h : Sm n k d) (hn : n ≤ n') (hk : k ≤ k') : Sm n' k' d := ⟨h.b, Nat.le_trans h.n hn, Nat.le_trans h.k hk⟩
theorem Sm.int {i : Int} (h : i.natAbs < 10 ^ 20) : Sm 1 0 (.int i) := ⟨decide_eq_true h, Nat.le_refl _, by simp [PyData.depth]⟩
theorem Sm.str {x : Str} (h : PyData.strOk x = true) (h2 : (PyData.str x).shown.length ≤ 28) : Sm 1 0 (.str x) := ⟨by show (PyData.strOk x && decide ((PyData.str x).shown.length ≤ 28)) = true; rw [h, decide_eq_true h2]; rfl, Nat.le_refl _, by simp [PyData.depth]⟩
theorem Sm.none : Sm 1 0 .none := ⟨rfl, Nat.le_refl _, by simp [PyData.depth]⟩
theorem Sm.bool (b : Bool) : Sm 1 0 (.bool b) := ⟨rfl, Nat.le_refl _, by simp [PyData.depth]⟩
theorem SmA.nil : SmA 0 0 [] := ⟨rfl, Nat.le_refl _, by simp [PyData.depthAll]⟩
theorem SmA.cons {n k n' k' : Nat} {d : D} {ds : List D} (h : Sm n k d) (t : SmA n' k' ds) : SmA (n + n') (max k k') (d :: ds) :=
  ⟨by show (smallB d && smallAll ds) = true; rw [h.b, t.b]; rfl, by show nodes d + nodesAll ds ≤ _; have := h.n; have := t.n; omega, by show max d.depth (PyData.depthAll ds) ≤ _; have := h.k; have := t.k; omega⟩
theorem SmA.map {γ : Type} {n k : Nat} {F : γ → D} : ∀ xs : List γ, (∀ x ∈ xs, Sm n k (F x)) → SmA (xs.length * n) k (xs.map F)
  | [], _ => ⟨rfl, by simp [nodesAll], by simp [PyData.depthAll]⟩
  | x :: xs, h => by
    have := SmA.cons (h x List.mem_cons_self) (SmA.map xs fun y hy => h y (List.mem_cons_of_mem _ hy))
    exact ⟨this.b, by have := this.n; rw [List.length_cons, Nat.succ_mul]; simp only [List.map_cons]; omega, by have := this.k; simp only [List.map_cons]; omega⟩
theorem SmA.le {n k n' k' : Nat} {ds : List D} (h : SmA n k ds) (hn : n ≤ n') (hk : k ≤ k') : SmA n' k' ds := ⟨h.b, Nat.le_trans h.n hn, Nat.le_trans h.k hk⟩
theorem SmA.tup {n k : Nat} {ds : List D} (h : SmA n k ds) : Sm (n + 1) (k + 1) (.tuple ds) := ⟨h.b, by show nodesAll ds + 1 ≤ _; have := h.n; omega, by show PyData.depthAll ds + 1 ≤ _; have := h.k; omega⟩
theorem SmA.lst {n k : Nat} {ds : List D} (h : SmA n k ds) : Sm (n + 1) (k + 1) (.list ds) := ⟨h.b, by show nodesAll ds + 1 ≤ _; have := h.n; omega, by show PyData.depthAll ds + 1 ≤ _; have := h.k; omega⟩
mutual
theorem lay_small : ∀ d : D, smallB d = true → d.canLay0 = true
  | .none, _ => rfl
  | .bool _, _ => rfl
  | .int _, _ => rfl
  | .str x, h => by
    have h' : PyData.strOk x = true ∧ (PyData.str x).shown.length ≤ 28 := by
      have : (PyData.strOk x && decide ((PyData.str x).shown.length ≤ 28)) = true := h
      simpa using this
    exact h'.1
  | .list xs, h => layA_small xs h
  | .tuple xs, h => layA_small xs h
  | .dict _, h => by cases h
theorem layA_small : ∀ xs : List D, smallAll xs = true → PyData.canLayAll0 xs = true
  | [], _ => rfl
  | x :: xs, h => by
    have h' : smallB x = true ∧ smallAll xs = true := by
      have : (smallB x && smallAll xs) = true := h
      simpa using this
    show (x.canLay0 && PyData.canLayAll0 xs) = true
    rw [lay_small x h'.1, layA_small xs h'.2]
    rfl
end
theorem Sm.shaped {n k : Nat} {d : D} (h : Sm n k d) (hk : k ≤ 64) : SeqAt.shaped d = true := by
  unfold SeqAt.shaped
  rw [lay_small d h.b, Bool.true_and]
  exact decide_eq_true (Nat.le_trans h.k hk)
/-! data without bools and dicts: == is equality -/
theorem mul_one {x : D} {k : Int} (h : 0 ≤ k) (h1 : k ≤ 1000) : mulD (.tuple [x]) (.int k) = some (.tuple (List.replicate k.toNat x)) := by
  show (if k = 1 then some (PyData.tuple [x]) else if [x] ≠ [] ∧ 2 ≤ k ∧ k ≤ 1000 ∧ [x].length ≤ 1000 then some (.tuple (List.replicate k.toNat [x]).flatten) else if [x] ≠ [] ∧ k = 0 then some (.tuple []) else none) = _
  by_cases e : k = 1
  · rw [if_pos e, e]; rfl
  · by_cases e0 : k = 0
    · rw [if_neg e, if_neg (by omega), if_pos ⟨by simp, e0⟩, e0]
      rfl
    rw [if_neg e, if_pos ⟨by simp, by omega, h1, by simp⟩]
    congr 2
    generalize k.toNat = n
    induction n with
    | zero => rfl
    | succ n ih => rw [List.replicate_succ, List.flatten_cons, ih]; rfl
/-! the first index -/
def firstN {α : Type} (p : α → Bool) (l : List α) : Option Nat := (l.zipIdx.find? fun q => p q.1).map (·.2)
def oN : Option Nat → D
  | none => .none
  | some n => .int (n : Nat)
theorem rep_ok {ds : List D} {k : Int} (h0 : 0 ≤ k) (h1 : k ≤ 1000) (h : ds.length ≤ 1000) : repO ds (.int k) = some (List.replicate k.toNat ds).flatten := by
  show (if 0 ≤ k ∧ k ≤ 1000 ∧ ds.length ≤ 1000 then some (List.replicate k.toNat ds).flatten else none) = _
  rw [if_pos ⟨h0, h1, h⟩]
end DD
namespace DD
open PySem PySem.Spec PyProof.Rows L2
theorem ob_assoc {α β γ : Type} (x : Option α) (f : α → Option β) (g : β → Option γ) : ((x >>= f) >>= g) = (x >>= fun a => f a >>= g) := by cases x <;> rfl
/-! ### other draws -/
end DD
namespace DD
open PySem PySem.Spec PyProof.Rows L2
/-! ### x in c, x not in c: data of any depth -/
/-- a list of texts -/
def strsOf : List D → Option (List Str)
  | [] => some []
  | .str x :: ds => (strsOf ds).map (x :: ·)
  | _ :: _ => none
/-! ### [e for x in it for y in it2] -/
section
variable {m : Type → Type} [Mo m]
def lc2B (f : D → m D) : List D → List D → m (List D)
  | [], acc => pure acc
  | e :: r, acc => f e >>= fun z => Mo.lift (fits acc.length) >>= fun _ => lc2B f r (acc ++ [z])
def lc2A (y : D → m (List D)) (f : D → D → m D) : List D → List D → m (List D)
  | [], acc => pure acc
  | d :: r, acc => y d >>= fun es => lc2B (f d) es acc >>= fun acc => lc2A y f r acc
variable [Calm m] {X : Cx} {EX : XR} {g : List Sl}
abbrev comp11 (x : m (List D)) (y : D → m (List D)) (f : D → D → m D) : m (List D) := x >>= fun ds => Mo.lift (small ds) >>= fun ds => lc2A y f ds []
end
/-! rows -/
theorem get_row {rows : List (List Int)} {d : Nat} (h : d < rows.length) : DD.getD (tT rows) (.int (d : Nat)) = some (tI (rows.getD d [])) := by
  have := get_tup (F := tI) h
  rw [this]
  simp [List.getD, h]
theorem row_len {rows : List (List Int)} {k d : Nat} (hl : ∀ r ∈ rows, r.length = k) (h : d < rows.length) : (rows.getD d []).length = k := by
  simp [List.getD, h]
  exact hl _ (List.getElem_mem h)
theorem cut_loA {r : List D} {j : Int} (h0 : 0 ≤ j) : sliceD (.tuple r) none (some j) = some (.tuple (r.take j.toNat)) := by
  show some (PyData.tuple (cutD r none (some j))) = _
  unfold cutD
  have e : HT.sIx r.length r.length (some j) = min j.toNat r.length := by
    show (if j < 0 then (j + (r.length : Int)).toNat else min j.toNat r.length) = _
    rw [if_neg (by omega)]
  rw [e, HT.sIx_none, List.drop_zero, Nat.sub_zero]
  congr 2
  rw [List.take_eq_take_iff]
  omega
theorem int_map {γ : Type} (l : List γ) (f : γ → Int) : (l.map fun y => PyData.int (f y)) = (l.map f).map PyData.int := by simp [Function.comp_def]
/-! ### defs that call themselves -/
theorem fng_none {m : Type → Type} [Mo m] {P : Program} {w : World} {K : PySem.W.Frag} {mg : Str → Option Value} {base : Heap} {k : Nat} {f : Addr} {fd : FuncData} {ps : List Str} {M : List Sl → m D} (h : ∀ as n φ, ¬ Mo.sat (M as) n φ (fun _ _ => False)) : FnG P w K mg base k f fd ps (spJ K M) :=
  ⟨fun _ _ _ _ ⟨_, n, _, as, φ, _, _, s, _⟩ => (h as n φ s).elim, fun _ _ _ _ _ _ _ _ _ _ _ _ _ _ ⟨_, n, _, as, φ, _, _, s, _⟩ => (h as n φ s).elim⟩
theorem no_lift {m : Type → Type} [Mo m] {n : Wd} {φ : D → Wd → Prop} {ξ : Exn → Wd → Prop} : ¬ Mo.sat (Mo.lift none : m D) n φ ξ := fun h => by
  obtain ⟨_, e, _⟩ := Mo.sat_lift h
  cases e
theorem zipIdx_range (r : List Int) : r.zipIdx = (List.range r.length).map fun i => (r.getD i 0, i) := by
  refine List.ext_getElem (by simp) fun i h1 h2 => ?_
  have : i < r.length := by simpa using h1
  simp [List.getD, this]
/-- drawn wishes: one to four rows of k ints, none all zero -/
structure Wishes (k : Nat) (m : Int) (rows : List (List Int)) : Prop where
  one : 1 ≤ rows.length
  four : rows.length ≤ 4
  len : ∀ r ∈ rows, r.length = k
  ge : ∀ r ∈ rows, ∀ x ∈ r, 0 ≤ x ∧ x ≤ m
  pos : ∀ r ∈ rows, ∃ x ∈ r, 0 < x
def good (k : Nat) (m : Int) (r : List Int) : Prop := r.length = k ∧ (∀ x ∈ r, 0 ≤ x ∧ x ≤ m) ∧ ∃ x ∈ r, 0 < x
theorem Wishes.take {k : Nat} {m : Int} {rows : List (List Int)} (w : Wishes k m rows) {n : Nat} (h : 1 ≤ n) : Wishes k m (rows.take n) :=
  ⟨by have := w.one; rw [List.length_take]; omega, by have := w.four; rw [List.length_take]; omega, fun r hr => w.len r (List.mem_of_mem_take hr), fun r hr => w.ge r (List.mem_of_mem_take hr), fun r hr => w.pos r (List.mem_of_mem_take hr)⟩
/-- a drawn stock -/
structure Stk (m : Int) (k : Nat) (rows : List (List Int)) : Prop where
  one : 1 ≤ rows.length
  four : rows.length ≤ 4
  k1 : 1 ≤ k
  k4 : k ≤ 4
  len : ∀ r ∈ rows, r.length = k
  ge : ∀ r ∈ rows, ∀ x ∈ r, 0 ≤ x ∧ x ≤ m
/-! ### is, is not of bools -/
/-! ### for with three names -/
section
variable {m : Type → Type} [Mo m] {A : Type} {X : Cx} {EX : XR} {g : List Sl}
def tripM {α : Type} (d : D) (f : D → D → D → m α) : m α := match d with
  | .tuple [a, b, c] => f a b c
  | _ => Mo.lift none
abbrev forM3 (x : m (List D)) (a0 : A) (b : D → D → D → A → m (Fl A)) : m (Fl A) := x >>= fun ds => loopM (fun d a => tripM d fun u w v => b u w v a) ds a0
end
end DD
namespace DD
open PySem PySem.Spec PyProof.Rows L2
/-! ### two new lists at once -/
/-! the same by a tuple that is built and taken apart (names that a comprehension reads) -/
section
variable {m : Type → Type} [Mo m] {X : Cx} {EX : XR} {g : List Sl}
theorem sj_tupVL (i j : Nat) {tg a b : Expr} {pos : Pos} {k2 pt2} {x1 : m D} {x2 : m (List D)} (ha : EJ X EX a g x1) (hb : LJ X EX b g x2) (hg : PG X tg (gTup X.K 2 (gCons (gName i) (gCons (gName j) gNil)))) (hs : swapsWithSole [tg] (.Tuple [a, b] k2 pt2) pos.line X.env = pure false := by kernel_rfl) (hw : swappedStores [tg] (.Tuple [a, b] k2 pt2) X.env = pure none := by kernel_rfl)
    (h1 : (assignEach [tg] X.env).map (·.2) = [assign tg X.env] := by rfl) (hs1 : starEach [a, b] X.env = (false, eval a X.env) :: starEach [b] X.env := by rfl) (hs2 : starEach [b] X.env = (false, eval b X.env) :: starEach [] X.env := by rfl) :
    SJ X EX (.Assign [tg] (.Tuple [a, b] k2 pt2) pos) g (x1 >>= fun d => x2 >>= fun e => pure (d, e)) (fun de => (g.set i (.val de.1)).set j (.own de.2)) :=
  (ps_asg (pe_tup (pa_cons ha (pa_cons hb pa_nil hs2) hs1)) hg hs hw h1).weak fun De σ H ⟨B, G, n, φ, ξ, o, s, q, xw⟩ => te_one o s (fun v H1 G1 d n1 o1 g1 d1 s1 => ⟨B, G1, n1, _, ξ, o1, Mo.sat_bind s1, fun p xs H2 G2 es n2 o2 g2 hb' hg' hh hf da s2 =>
    ⟨(by show 2 ≤ sizeLine; decide), fun t ht => ⟨t, _, rfl, .inl (.inl upd_same), rfl, _, _, rfl, _, _, rfl, rfl, q (d, es) _ _ G2 n2 (((o2.raw ht).setV (d1.mono g2)).setO hb' hg' (by rw [upd_ne (fun e => by rw [← e, hh] at ht; cases ht)]; exact hh) (fun k es' f e1 e2 => by
      by_cases hk : i = k
      · subst hk
        by_cases hl : i < g.length
        · rw [List.getElem?_set_self hl] at e1; cases e1
        · rw [List.getElem?_eq_none (by rw [List.length_set]; omega)] at e1; cases e1
      · rw [List.getElem?_set_ne hk] at e1 e2
        exact hf k es' f e1 e2) da) (g1.trans g2) (Mo.sat_pure s2)⟩⟩, xw⟩) xw
end
/-! ### dicts as constants -/
end DD
namespace DD
open PySem PySem.Spec PyProof.Rows
/-! ### t[::-1] of a tuple -/
open L2
theorem log60 {i : Int} (h : i.natAbs < 10 ^ 60) : i.natAbs.log2 < 1920 := by
  by_cases h0 : i.natAbs = 0
  · rw [h0]; decide
  · exact Nat.lt_of_lt_of_le ((Nat.log2_lt h0).mpr (Nat.lt_of_lt_of_le h (show 10 ^ 60 ≤ 2 ^ 200 by decide))) (by decide)
section
variable {m : Type → Type} [Mo m] {X : Cx} {EX : XR} {g : List Sl} {K : PySem.W.Frag}
/-- xs + ys of lists: a new list -/
def catO : D → D → Option (List D)
  | .list a, .list b => if a.length + b.length ≤ 1000000 then some (a ++ b) else none
  | _, _ => none
end
section
variable {m : Type → Type} [Mo m] {X : Cx} {EX : XR} {g : List Sl}
abbrev par3LM (x : m (List D)) (y z : m D) : m (List D × D × D) := x >>= fun d => y >>= fun e => z >>= fun f => pure (d, e, f)
abbrev put2M (ds : List D) (x1 x2 z1 : m D) (z2 : List D → m D) : m (List D) := x1 >>= fun a => x2 >>= fun b => z1 >>= fun j1 => Mo.lift (putD ds j1 a) >>= fun es => z2 es >>= fun j2 => Mo.lift (putD es j2 b)
abbrev catM (x y : m D) : m (List D) := x >>= fun d => y >>= fun e => Mo.lift (catO d e)
end
/-! ### sep.join(texts) -/
def strOnly : D → Option Str
  | .str x => some x
  | _ => none
def joinD (a : Str) (d : D) : Option D := (itemsD d).bind fun xs => (strsOf xs).bind fun ss => if (ss.map (·.length)).sum + ss.length * a.length ≤ 1000000 then some (.str (Str.join a ss)) else none
section
variable {m : Type → Type} [Mo m] {X : Cx} {EX : XR} {g : List Sl}
abbrev joinM (x y : m D) : m D := x >>= fun a => Mo.lift (strOnly a) >>= fun s => y >>= fun d => Mo.lift (joinD s d)
end
/-! ### repr of any data: n nodes, depth k; dicts of constants -/
mutual
def repB : D → Bool
  | .none => true
  | .bool _ => true
  | .int i => decide (i.natAbs < 10 ^ 60)
  | .str x => decide ((PyData.str x).shown.length ≤ 250)
  | .list xs => repAll xs
  | .tuple xs => repAll xs
  | .dict kvs => decide ((PyData.dict kvs).shown.length ≤ 90) && (PyData.dict kvs).showable && decide ((PyData.dict kvs).depth ≤ 1)
def repAll : List D → Bool
  | [] => true
  | x :: xs => repB x && repAll xs
end
theorem int_len60 {i : Int} (h : i.natAbs < 10 ^ 60) : (Str.ofString (toString i)).length ≤ 61 := by
  rw [PySem.ofString_length, Int.toString_eq_repr, Int.repr_eq_if]
  split
  · exact Nat.le_trans ((Nat.length_repr_le_iff (k := 60) (by decide)).mpr (by omega)) (by decide)
  · rw [String.length_append]
    have := (Nat.length_repr_le_iff (n := (-i).toNat) (k := 60) (by decide)).mpr (by omega)
    have e : ("-" : String).length = 1 := by decide
    omega
mutual
theorem rep_len : ∀ d : D, repB d = true → d.shown.length + 2 ≤ 300 * nodes d ∧ d.showable = true
  | .none, _ => ⟨by decide, rfl⟩
  | .bool b, _ => ⟨by cases b <;> decide, rfl⟩
  | .int i, h => by
    have h' : i.natAbs < 10 ^ 60 := of_decide_eq_true h
    refine ⟨?_, decide_eq_true (log60 h')⟩
    have := int_len60 h'
    show (Str.ofString (toString i)).length + 2 ≤ 300 * 1
    omega
  | .str x, h => by
    have h' : (PyData.str x).shown.length ≤ 250 := of_decide_eq_true h
    refine ⟨?_, rfl⟩
    show (PyData.str x).shown.length + 2 ≤ 300 * 1
    omega
  | .list xs, h => by
    obtain ⟨h1, h2⟩ := repAll_len xs h
    refine ⟨?_, h2⟩
    show (listText (PyData.shownAll xs)).length + 2 ≤ 300 * (nodesAll xs + 1)
    have := list_len (PyData.shownAll xs)
    omega
  | .tuple xs, h => by
    obtain ⟨h1, h2⟩ := repAll_len xs h
    refine ⟨?_, h2⟩
    show (tupleText (PyData.shownAll xs)).length + 2 ≤ 300 * (nodesAll xs + 1)
    have := tup_len (PyData.shownAll xs)
    omega
  | .dict kvs, h => by
    have h' : ((PyData.dict kvs).shown.length ≤ 90 ∧ (PyData.dict kvs).showable = true) ∧ (PyData.dict kvs).depth ≤ 1 := by
      have : (decide ((PyData.dict kvs).shown.length ≤ 90) && (PyData.dict kvs).showable && decide ((PyData.dict kvs).depth ≤ 1)) = true := h
      simpa using this
    refine ⟨?_, h'.1.2⟩
    show (PyData.dict kvs).shown.length + 2 ≤ 300 * 1
    omega
theorem repAll_len : ∀ xs : List D, repAll xs = true → piled (PyData.shownAll xs) ≤ 300 * nodesAll xs ∧ PyData.showableAll xs = true
  | [], _ => ⟨by simp [PyData.shownAll, piled], rfl⟩
  | x :: xs, h => by
    have h' : repB x = true ∧ repAll xs = true := by
      have : (repB x && repAll xs) = true := h
      simpa using this
    obtain ⟨a1, a2⟩ := rep_len x h'.1
    obtain ⟨b1, b2⟩ := repAll_len xs h'.2
    refine ⟨?_, ?_⟩
    · show piled (x.shown :: PyData.shownAll xs) ≤ 300 * (nodes x + nodesAll xs)
      rw [piled_cons]
      omega
    · show (x.showable && PyData.showableAll xs) = true
      rw [a2, b2]
      rfl
end
/-- what repr can show: n nodes, depth k -/
structure Rp (n k : Nat) (d : D) : Prop where
  b : repB d = true
  n : nodes d ≤ n
  k : d.depth ≤ k
structure RpA (n k : Nat) (ds : List D) : Prop where
  b : repAll ds = true
  n : nodesAll ds ≤ n
  k : PyData.depthAll ds ≤ k
theorem Rp.repr {n k : Nat} {d : D} (h : Rp n k d) (hn : n ≤ 3300) (hk : k ≤ 50) : reprD d = some (.str d.shown) := by
  obtain ⟨a, b⟩ := rep_len d h.b
  have := h.n
  have := h.k
  unfold reprD
  rw [if_pos ⟨b, by omega, by omega⟩]
theorem Rp.le {n k n' k' : Nat} {d : D} (h : Rp n k d) (hn : n ≤ n') (hk : k ≤ k') : Rp n' k' d := ⟨h.b, Nat.le_trans h.n hn, Nat.le_trans h.k hk⟩
theorem Rp.int {i : Int} (h : i.natAbs < 10 ^ 60) : Rp 1 0 (.int i) := ⟨decide_eq_true h, Nat.le_refl _, by simp [PyData.depth]⟩
theorem Rp.none : Rp 1 0 .none := ⟨rfl, Nat.le_refl _, by simp [PyData.depth]⟩
theorem Rp.bool (b : Bool) : Rp 1 0 (.bool b) := ⟨rfl, Nat.le_refl _, by simp [PyData.depth]⟩
theorem Rp.str {x : Str} (h : (PyData.str x).shown.length ≤ 250) : Rp 1 0 (.str x) := ⟨decide_eq_true h, Nat.le_refl _, by simp [PyData.depth]⟩
theorem RpA.nil : RpA 0 0 [] := ⟨rfl, Nat.le_refl _, by simp [PyData.depthAll]⟩
theorem RpA.cons {n k n' k' : Nat} {d : D} {ds : List D} (h : Rp n k d) (t : RpA n' k' ds) : RpA (n + n') (max k k') (d :: ds) :=
  ⟨by show (repB d && repAll ds) = true; rw [h.b, t.b]; rfl, by show nodes d + nodesAll ds ≤ _; have := h.n; have := t.n; omega, by have := h.k; have := t.k; simp only [PyData.depthAll]; omega⟩
theorem RpA.map {γ : Type} {n k : Nat} {F : γ → D} : ∀ xs : List γ, (∀ x ∈ xs, Rp n k (F x)) → RpA (xs.length * n) k (xs.map F)
  | [], _ => ⟨rfl, by simp [nodesAll], by simp [PyData.depthAll]⟩
  | x :: xs, h => by
    have := RpA.cons (h x List.mem_cons_self) (RpA.map xs fun y hy => h y (List.mem_cons_of_mem _ hy))
    exact ⟨this.b, by have := this.n; rw [List.length_cons, Nat.succ_mul]; simp only [List.map_cons]; omega, by have := this.k; simp only [List.map_cons]; omega⟩
theorem RpA.le {n k n' k' : Nat} {ds : List D} (h : RpA n k ds) (hn : n ≤ n') (hk : k ≤ k') : RpA n' k' ds := ⟨h.b, Nat.le_trans h.n hn, Nat.le_trans h.k hk⟩
theorem RpA.tup {n k : Nat} {ds : List D} (h : RpA n k ds) : Rp (n + 1) (k + 1) (.tuple ds) := ⟨h.b, by show nodesAll ds + 1 ≤ _; have := h.n; omega, by show PyData.depthAll ds + 1 ≤ _; have := h.k; omega⟩
theorem RpA.lst {n k : Nat} {ds : List D} (h : RpA n k ds) : Rp (n + 1) (k + 1) (.list ds) := ⟨h.b, by show nodesAll ds + 1 ≤ _; have := h.n; omega, by show PyData.depthAll ds + 1 ≤ _; have := h.k; omega⟩
theorem Rp.all {n k : Nat} {d : D} {ds : List D} (h : Rp n k d) (e : d = .tuple ds ∨ d = .list ds) : RpA (n - 1) (k - 1) ds := by
  rcases e with rfl | rfl
  · exact ⟨h.b, by have : nodesAll ds + 1 ≤ n := h.n; omega, by have : PyData.depthAll ds + 1 ≤ k := h.k; omega⟩
  · exact ⟨h.b, by have : nodesAll ds + 1 ≤ n := h.n; omega, by have : PyData.depthAll ds + 1 ≤ k := h.k; omega⟩
theorem nodes_pos (d : D) : 1 ≤ nodes d := by cases d <;> simp [nodes]
theorem RpA.len {n k : Nat} : ∀ {ds : List D}, RpA n k ds → ds.length ≤ n
  | [], _ => Nat.zero_le _
  | x :: xs, h => by
    have hn : nodes x + nodesAll xs ≤ n := h.n
    have hb : repB x = true ∧ repAll xs = true := by
      have : (repB x && repAll xs) = true := h.b
      simpa using this
    have hk : max x.depth (PyData.depthAll xs) ≤ k := by have := h.k; simpa only [PyData.depthAll] using this
    have := RpA.len (n := n - 1) (k := k) (ds := xs) ⟨hb.2, by have := nodes_pos x; omega, by omega⟩
    have := nodes_pos x
    simp only [List.length_cons]
    omega
theorem repAll_append : ∀ (a b : List D), repAll (a ++ b) = (repAll a && repAll b)
  | [], b => rfl
  | x :: a, b => by show (repB x && repAll (a ++ b)) = _; rw [repAll_append a b, ← Bool.and_assoc]; rfl
theorem nodesAll_append : ∀ (a b : List D), nodesAll (a ++ b) = nodesAll a + nodesAll b
  | [], b => by simp [nodesAll]
  | x :: a, b => by show nodes x + nodesAll (a ++ b) = nodes x + nodesAll a + nodesAll b; rw [nodesAll_append a b]; omega
theorem depthAll_append : ∀ (a b : List D), PyData.depthAll (a ++ b) = max (PyData.depthAll a) (PyData.depthAll b)
  | [], b => by simp [PyData.depthAll]
  | x :: a, b => by rw [List.cons_append]; simp only [PyData.depthAll]; rw [depthAll_append a b]; omega
theorem RpA.append {n k n' k' : Nat} {a b : List D} (h : RpA n k a) (t : RpA n' k' b) : RpA (n + n') (max k k') (a ++ b) :=
  ⟨by rw [repAll_append, h.b, t.b]; rfl, by rw [nodesAll_append]; have := h.n; have := t.n; omega, by rw [depthAll_append]; have := h.k; have := t.k; omega⟩
theorem RpA.part {n k : Nat} {a b c : List D} (h : RpA n k (a ++ b ++ c)) : RpA n k b := by
  have h1 := h.b
  have h2 := h.n
  have h3 := h.k
  rw [repAll_append, repAll_append] at h1
  rw [nodesAll_append, nodesAll_append] at h2
  rw [depthAll_append, depthAll_append] at h3
  simp only [Bool.and_eq_true] at h1
  exact ⟨h1.1.2, by omega, by omega⟩
theorem RpA.take {n k : Nat} {ds : List D} (h : RpA n k ds) (i : Nat) : RpA n k (ds.take i) := RpA.part (a := []) (c := ds.drop i) (by rw [List.nil_append, List.take_append_drop]; exact h)
theorem RpA.drop {n k : Nat} {ds : List D} (h : RpA n k ds) (i : Nat) : RpA n k (ds.drop i) := RpA.part (a := ds.take i) (c := []) (by rw [List.append_nil, List.take_append_drop]; exact h)
theorem RpA.each {n k : Nat} {ds : List D} (h : ∀ d ∈ ds, Rp n k d) : RpA (ds.length * n) k ds := by
  have := RpA.map (F := id) ds h
  rwa [List.map_id] at this
theorem Rp.tI {r : List Int} {n : Nat} (h : ∀ x ∈ r, x.natAbs < 10 ^ 60) (hn : r.length ≤ n) : Rp (n + 1) 1 (tI r) := (RpA.map (n := 1) (k := 0) r fun x hx => Rp.int (h x hx)).tup.le (by omega) (Nat.le_refl _)
theorem Rp.tT {rows : List (List Int)} {n k : Nat} (h : ∀ r ∈ rows, ∀ x ∈ r, x.natAbs < 10 ^ 60) (hk : ∀ r ∈ rows, r.length ≤ k) (hn : rows.length ≤ n) : Rp (n * (k + 1) + 1) 2 (tT rows) := (RpA.map (n := k + 1) (k := 1) rows fun r hr => Rp.tI (h r hr) (hk r hr)).tup.le (by have := Nat.mul_le_mul_right (k + 1) hn; omega) (Nat.le_refl _)
theorem cut_hiA {r : List D} {j : Int} (h0 : 0 ≤ j) : sliceD (.tuple r) (some j) none = some (.tuple (r.drop j.toNat)) := by
  show some (PyData.tuple (cutD r (some j) none)) = _
  unfold cutD
  have e : HT.sIx r.length 0 (some j) = min j.toNat r.length := by
    show (if j < 0 then (j + (r.length : Int)).toNat else min j.toNat r.length) = _
    rw [if_neg (by omega)]
  rw [e, HT.sIx_none, List.take_of_length_le (by simp)]
  congr 2
  rcases Nat.le_total j.toNat r.length with h | h
  · rw [Nat.min_eq_left h]
  · rw [Nat.min_eq_right h, List.drop_of_length_le h, List.drop_of_length_le (Nat.le_refl _)]
theorem eq_nilA (xs : List D) : eqD (.list xs) (.list []) = some (.bool xs.isEmpty) := by
  show (if SeqAt.shaped (.list xs) = true ∧ SeqAt.shaped (.list []) = true then some (PyData.bool (PyData.eqv (.list xs) (.list []))) else (lensD (.list xs) (.list [])).map fun k => .bool k) = _
  cases xs with
  | nil => kernel_rfl
  | cons x xs =>
    split
    · simp [PyData.eqv, PyData.eqvAll]
    · rfl
end DD
namespace DD
open PySem PySem.Spec PyProof.Rows L2
section
variable {m : Type → Type} [Mo m] {X : Cx} {EX : XR} {g : List Sl}
/-- what pop takes out, and what is left -/
def popD (ds : List D) (k : D) : Option (D × List D) := match k with
  | .int j => if 0 ≤ j ∧ j < 2 ^ 62 then (ds[j.toNat]?).map fun d => (d, ds.eraseIdx j.toNat) else none
  | _ => none
theorem DaAll.eraseIdx {K : PySem.W.Frag} {G : Hp} : ∀ {vs : List V} {ds : List D} (n : Nat), DaAll K G vs ds → DaAll K G (vs.eraseIdx n) (ds.eraseIdx n)
  | _, _, _, .nil => .nil
  | _, _, 0, .cons _ b => b
  | _, _, n + 1, .cons a b => .cons a (DaAll.eraseIdx n b)
abbrev popM (fs ds : List D) (x : m D) : m (D × List D) := x >>= fun k => Mo.lift (popD fs k) >>= fun p => Mo.lift (fits ds.length) >>= fun _ => pure p
abbrev parLV (x : m (List D)) (y : m D) : m (List D × D) := x >>= fun d => y >>= fun e => pure (d, e)
abbrev putVM (ds : List D) (x1 x2 zk : m D) : m (List D × D) := x1 >>= fun a => x2 >>= fun b => zk >>= fun j1 => Mo.lift (putD ds j1 a) >>= fun es => pure (es, b)
end
/-! ### sorted of ints -/
def insI (x : Int) : List Int → List Int
  | [] => [x]
  | y :: l => if x ≤ y then x :: y :: l else y :: insI x l
def sortI : List Int → List Int
  | [] => []
  | x :: l => insI x (sortI l)
end DD
namespace DD
open PySem PySem.Spec PyProof.Rows L2 StX
/-! ### a, *b = t -/
/-- what is first, and the rest -/
def headD : D → Option (D × List D)
  | .tuple (d :: ds) => some (d, ds)
  | _ => none
section
variable {m : Type → Type} [Mo m] {A : Type} {X : Cx} {EX : XR} {g : List Sl}
abbrev unpS (x : m D) : m (D × List D) := x >>= fun d => Mo.lift (headD d)
end
/-! ### defs with a star parameter -/
end DD
namespace DD
open PySem PySem.Spec PyProof.Rows L2
section
variable {m : Type → Type} [Mo m] {A : Type} {X : Cx} {EX : XR} {g : List Sl}
abbrev trg1M (x : m D) : m D := x >>= fun d => Mo.lift (lrgO1 d) >>= fun ds => pure (.tuple ds)
/-- x or y, the value itself -/
def truD : D → Option Bool
  | .none => some false
  | .bool b => some b
  | .int i => some (!(i == 0))
  | _ => none
abbrev orV (x y : m D) : m D := x >>= fun d => Mo.lift (truD d) >>= fun k => if k = true then pure d else y
/-! ### while -/
end
end DD
namespace DD
open PySem PySem.Spec PyProof.Rows L2
/-- sorted, each once -/
def dedI : List Int → List Int
  | [] => []
  | x :: l => if decide (x ∈ l) = true then dedI l else x :: dedI l
def sortSetD : D → Option (List D)
  | .list ds => (intsD ds).bind fun ns => if ns.length < 63 then some ((sortI (dedI ns)).map .int) else none
  | _ => none
section
variable {m : Type → Type} [Mo m] {X : Cx} {EX : XR} {g : List Sl}
abbrev sortSetM (x : m D) : m D := x >>= fun d => Mo.lift (sortSetD d) >>= fun ds => pure (.list ds)
end
end DD
/-! errors whose context is None: the kit's L2N in the place of L2 (a class with its own __init__; an except clause without a name) -/
namespace DD
open PySem PySem.Spec PyProof.Rows L2
/-- what a class's call leaves, the context None -/
theorem mk_endN {X : Cx} {pins : List (Addr × Obj)} {σ : L2.St} {H1 H2 : Hp} {Q : XK} {hp hp2 h2 : Heap} {g1 g2 : Array GenState} {d1 d2 : Drawn} {t1 t2 : Nat} {os1 os2 : OsState} {a C d : Addr} {fs : List (Str × V)} (T : Raises X (.ref C)) (I1 : Inv X pins σ H1 ⟨hp, g1, d1, t1, os1⟩)
    (up : hp.objs.size ≤ a) (old : ∀ b o, hp.get? b = some o → hp2.get? b = some o) (un : Un (frs X.stack) [] (upd H1 a (exo a C none)) H2 hp2 h2) (hok : HOk X.prog X.w H2 h2) (ho : os2 = os1) (bare : AllBare g2)
    (ea : H2 a = some (exo a C (some d))) (ed : H2 d = some (exd d fs)) (nd : H1 d = none) (q : Q (.ref C) (some d) (upd (del H2 a) d (.xd fs))) : L2N.MkP X pins σ Q (.ref a) ⟨h2, g2, d2, t2, os2⟩ :=
  let ⟨_, G, J, kG, ge, oe, na⟩ := mk_end0 (d2 := d2) (t2 := t2) I1 up old un hok ho bare ea ed nd
  ⟨a, _, _, ⟨G, g2, d2, t2, os2⟩, _, .ref C, some d, rfl, J, kG, ge, oe, ⟨rfl, rfl, fun _ z => by cases z; rfl⟩, rfl, rfl, na, rfl, bare, T, q⟩
section
variable {X : Cx} {e : Expr} {es : List Expr} {ta : TA}
/-- C(e, ..) makes the error, its __init__ fills it; its context is None -/
theorem pmk_oexN {CX : CXT} {c : Str} {p pos : Pos} {C fI : Addr} {k : Nat} {fd : FuncData} {ps : List Str} {sp : Sp} {ds : List Value} {dvs : List V} (T : OexC X.K C) (i1 : PySem.W.findIn X.K (.ref C) "__init__" = some (some (.ref fI))) (i2 : PySem.W.typeIn X.K (.ref fI) = some (.type "function")) (F1 : FnOk X.prog X.w X.K X.mg X.base CX k fI fd ps sp) (hr : Room (k + 1) X.A) (hb : Binds X.K fd ps ds) (hd : Vals dvs ds)
    (hx : Passes CX X (fun _ _ _ => False)) (hg : Gl X c) (hm : X.mg c = some (.ref C)) (ha : PA X (e :: es) ta) (hdb : (c == ("__debug__" : Str)) = false) (he : starEach (e :: es) X.env = (false, eval e X.env) :: starEach es X.env) (hpl : (backTo pos (starEach es X.env)).any (·.1) = false) :
    L2N.PMk X (.Call (.Name c p) (e :: es) [] pos) (tMkO C sp dvs ta) := by
  intro pins s σ H Q I h
  obtain ⟨nm, q, N, bs, bm, sn, sub, ab, col, dd, k0, k1, k2, k3, k5, lk, tl⟩ := T.cls
  refine wpAny_Call_Name_kw (ld_glob I hg hm (PySem.W.callWith_K (h₀ := X.base) I.ok.mod.kin T.kC (thn (ha.run pos pins s σ H _ I h) fun us s1 ⟨vs, H1, I1, r1, hz, q1⟩ => ⟨I1.kIn, ?_⟩) he hpl) hdb)
  show wpAny _ _ (call (.ref C) us) _ _ _
  obtain ⟨hp, gs, dr, tk, os⟩ := s1
  have up1 : hp.objs.size ≤ hp.objs.size + 1 := Nat.le_succ _
  have body := q1 (hp.objs.size + 1) (I1.hok.fresh up1)
  generalize hx1 : hp.objs.size + 1 = x at body up1
  obtain ⟨h2, eh2⟩ : ∃ h2 : Heap, h2 = (hp.push (PySem.W.kdv_tup us)).push (PySem.HandSPX.excO C hp.objs.size) := ⟨_, rfl⟩
  have old : ∀ b o, hp.get? b = some o → h2.get? b = some o := fun b o z => eh2 ▸ Heap.get?_push_of_some _ (Heap.get?_push_of_some _ z)
  have new : h2.get? x = some (PySem.HandSPX.excO C hp.objs.size) := by
    rw [← hx1, eh2]
    heap_get
  have I2 : Inv X pins σ (upd H1 x (exo x C none)) ⟨h2, gs, dr, tk, os⟩ := I1.laid (t' := tk) (h' := h2) old up1 (exo_ok new)
  have rv : Vals (V.ref x :: (vs ++ dvs)) (Value.ref x :: (us ++ ds)) := .cons rfl (r1.append hd)
  have len : (Value.ref x :: us ++ ds).length = ps.length := by
    have z := rv.length
    rw [F1.len _ _ _ _ body] at z
    exact z.symm
  have hus : us.length ≤ sizeLine := by
    rw [← Paired.length r1, sizeLine_eq]
    omega
  have bd : BindsTo ⟨h2, gs, dr, tk, os⟩ fd ⟨Value.ref x :: us, []⟩ (ps.zip (Value.ref x :: (us ++ ds))) := hb _ (Value.ref x :: us) I2.kIn len
  refine wpAny_call (PySem.HandSPX.call_own PySem.F.excBase_ValueError (fun Y => PySem.HandSPX.refsVE_contains Y bm tl) (I1.kIn _ _ lk) (PySem.W.looks_findIn I1.kIn i1) (fun self => PySem.W.bind_fn I1.kIn self i2) hus ?_)
  rw [hx1, ← eh2]
  refine codeAny_mono (F1.run _ X.stack _ _ ⟨Value.ref x :: us, []⟩ (Value.ref x :: (us ++ ds)) _ _ (fun _ _ _ => False) (hr.make C us []) (I2.env0.make C us []) bd rv body) fun r s' back => ?_
  cases r with
  | error er => exact hx pins σ _ _ er s' I2 back
  | ok fl =>
    cases fl with
    | ret u =>
      obtain ⟨v, H2, os2, bare2, un2, hok2, rz, ev, d, fs, ea, ed, hd1, q2⟩ := back
      subst ev
      obtain ⟨h3, g3, d3, t3, os3⟩ := s'
      exact ⟨rz, mk_endN (raises_own T.exC T.tyC) I1 up1 old un2 hok2 os2 bare2 ea ed hd1 q2⟩
    | next => exact False.elim back
    | brk => exact False.elim back
    | cont => exact False.elim back
end
end DD
namespace DD
open PySem PySem.Spec PyProof.Rows L2
/-! ### mirrors that raise -/
/-- plain data, or an error -/
def Xo (α : Type) : Type := Option (Except Exn α)
instance : Mo Xo where
  pure := fun a => some (.ok a)
  bind := fun x f => match x with
    | some (.ok a) => f a
    | some (.error e) => some (.error e)
    | none => none
  sat := fun x n φ ξ => n.ob = [] ∧ ((∃ a, x = some (.ok a) ∧ φ a n) ∨ ∃ e, x = some (.error e) ∧ ξ e n)
  lift := fun o => o.map .ok
  sat_pure := fun h => by
    obtain ⟨_, ⟨a, e, q⟩ | ⟨a, e, q⟩⟩ := h
    · cases e; exact q
    · cases e
  sat_bind := fun {α β x f n φ ξ} h => by
    obtain ⟨hn, h⟩ := h
    refine ⟨hn, ?_⟩
    match x, h with
    | some (.ok a), h => exact .inl ⟨a, rfl, hn, h⟩
    | some (.error e), .inl ⟨a, e', q⟩ => cases e'
    | some (.error e), .inr ⟨e2, e', q⟩ => cases e'; exact .inr ⟨e, rfl, q⟩
    | none, .inl ⟨a, e', q⟩ => cases e'
    | none, .inr ⟨e2, e', q⟩ => cases e'
  sat_lift := fun {α o n φ ξ} h => by
    obtain ⟨_, ⟨a, e, q⟩ | ⟨a, e, q⟩⟩ := h
    · cases o with
      | none => cases e
      | some b => cases e; exact ⟨_, rfl, q⟩
    · cases o with
      | none => cases e
      | some b => cases e
class MoX (m : Type → Type) [Mo m] where
  throw : {α : Type} → Exn → m α
  sat_throw : ∀ {α : Type} {e : Exn} {n : Wd} {φ : α → Wd → Prop} {ξ : Exn → Wd → Prop}, Mo.sat (throw e : m α) n φ ξ → ξ e n
instance : MoX Xo where
  throw := fun e => some (.error e)
  sat_throw := fun h => by
    obtain ⟨_, ⟨a, e, q⟩ | ⟨a, e, q⟩⟩ := h
    · cases e
    · cases e; exact q
instance : Up Option Xo where
  up := fun o => o.map .ok
  sat_up := fun {α o n φ ξ} h => ⟨h.1, Mo.sat_lift (m := Xo) h⟩
/-- what is raised by one mirror is caught by another -/
class Tr (m₁ m : Type → Type) [Mo m₁] [Mo m] where
  try_ : {α : Type} → m₁ α → (Exn → m α) → m α
  sat_try : ∀ {α : Type} {x : m₁ α} {h : Exn → m α} {n : Wd} {φ : α → Wd → Prop} {ξ : Exn → Wd → Prop}, Mo.sat (try_ x h) n φ ξ → Mo.sat x n φ (fun e n' => Mo.sat (h e) n' φ ξ)
def tryO {α : Type} (x : Xo α) (h : Exn → Option α) : Option α := match x with
  | some (.ok a) => some a
  | some (.error e) => h e
  | none => none
instance : Tr Xo Option where
  try_ := tryO
  sat_try := fun {α x h n φ ξ} s => by
    obtain ⟨hn, a, e, q⟩ := s
    refine ⟨hn, ?_⟩
    match x, e with
    | some (.ok b), e => cases e; exact .inl ⟨_, rfl, q⟩
    | some (.error b), e => exact .inr ⟨b, rfl, hn, a, e, q⟩
    | none, e => cases e
/-! ### defs that raise -/
structure FnX (P : Program) (w : World) (K : PySem.W.Frag) (mg : Str → Option Value) (base : Heap) (k : Nat) (f : Addr) (fd : FuncData) (ps : List Str) (sp : Sp) : Prop where
  len : ∀ vs H Q E, sp vs H Q E → vs.length = ps.length
  run : ∀ (A : Around) (outer : List Env) (s : Shared) (H : Hp) (args : Args) (us : List Value) (vs : List V) (Q : VK) (E : XK), Room k A → A.guards = some [] → Env0 P w K mg base A outer s H → BindsTo s fd args (ps.zip us) → Vals vs us → sp vs H Q E →
    codeAny (model P w) A (.call (.ref f) args) (CR (L2N.CX P w) outer P w H s Q E) s
theorem FnX.mono {P : Program} {w : World} {K : PySem.W.Frag} {mg : Str → Option Value} {base : Heap} {j k : Nat} {f : Addr} {fd : FuncData} {ps : List Str} {sp : Sp} (F : FnX P w K mg base j f fd ps sp) (h : j ≤ k) : FnX P w K mg base k f fd ps sp :=
  ⟨F.len, fun A outer s H args us vs Q E hr => F.run A outer s H args us vs Q E (hr.mono h)⟩
theorem fnx_of {P : Program} {w : World} {K : PySem.W.Frag} {mg : Str → Option Value} {base : Heap} {k : Nat} {x qual : Str} {st : Stmt} {f : Addr} {fd : FuncData} {N ps : List Str} {sp : Sp} (F : Fun K x qual st f fd) (S : FnScope N ps (defScope st)) (len : ∀ vs H Q E, sp vs H Q E → vs.length = ps.length)
    (hb : ∀ (cdv : Value) (A : Around) (outer : List Env) (s : Shared) (H : Hp) (vs : List V) (Q : VK) (E : XK), Room k (A.deeper (envOfC qual (defScope st) s.heap.objs.size f cdv)) → A.guards = some [] → sp vs H Q E →
      ∃ t, PSs (cxOf (L2N.CX P w) P w K mg base N qual (defScope st) f cdv A outer s H E) (defBody st) t ∧ t { nx := fun _ H' => Q .non H', rt := Q } (start N vs) H) : FnX P w K mg base (k + 1) f fd ps sp := by
  obtain ⟨oc, od, kV, doc, pm, an, cdv, ct, osl, rfl, lk, hcd⟩ := F.ex
  refine ⟨len, fun A outer s H args us vs Q E room gu e0 bi rv hsp => ?_⟩
  have KH : K.In s.heap := e0.mod.kin.keeps fun b o z => (e0.bs b o z).1
  have kinds : ∀ y ∈ ps.zip us, (defScope st).names.lookup y.1 = some .local ∨ ((defScope st).names.lookup y.1 = some .cell ∧ ((cellsFrom (s.heap.objs.size + 1) (defScope st).names []).lookup y.1).isSome = true) := by
    rintro ⟨nm, _⟩ hy
    exact (S.par nm (List.of_mem_zip hy).1).imp id fun z => ⟨z, PySem.W.cellsFrom_some _ _ _ (.inl z)⟩
  refine codeAny_call_function room.depth (KH _ _ lk) rfl S.co S.gen rfl (PySem.W.codeRec_of KH hcd) (bi _ _ _ _ (wpAny_newFunctionEnv_cells S.kind kinds fun env he s1 nw => ?_))
  subst he
  refine ⟨(e0.mod.nolimit.keeps fun b o z => (e0.bs b o z).1).keeps nw.toInCall.keep, codeAny_func ?_⟩
  obtain ⟨t, ht, hq⟩ := hb cdv A outer s H vs Q E (room.deeper _) gu hsp
  refine wpAny_mono (ht.run [] s1 (start N vs) H _ (inv_start S room.hd e0 (len _ _ _ _ hsp) rv nw) hq) (fun fl s' h => ?_) fun _ _ z => z
  cases fl with
  | ret u =>
    obtain ⟨v, _, H', J, r', q⟩ := h
    exact ⟨v, H', J.os, J.bare, J.base, J.hok, r', q⟩
  | next =>
    obtain ⟨_, H', J, q⟩ := h
    exact ⟨.non, H', J.os, J.bare, J.base, J.hok, rfl, q⟩
  | brk => obtain ⟨_, _, _, q⟩ := h; exact q.elim
  | cont => obtain ⟨_, _, _, q⟩ := h; exact q.elim
section
variable {m : Type → Type} [Mo m]
/-- a promise by a mirror that may raise -/
def spX (K : PySem.W.Frag) (mg : Str → Option Value) (F : List Sl → m D) : Sp := fun vs H Q E => ∃ G n dk as φ ξ, ArgsOk K ⟨H, G, dk, G⟩ G vs as ∧ Fm K ⟨H, G, dk, G⟩ H G n ∧ Mo.sat (F as) n φ ξ ∧
  (∀ v H' G' d n', Fm K ⟨H, G, dk, G⟩ H' G' n' → Da K G' v d → φ d n' → Q v H') ∧ ∀ e c od H' G' n', Fm K ⟨H, G, dk, G⟩ H' G' n' → ExA K mg e G' c od → ξ e n' → E c od H'
/-- the wish of a def's body: what is raised leaves -/
def xrOf (N : List Str) (E : XK) : XR := ⟨fun c od _ H => E c od H, List.replicate N.length .any⟩
theorem fn_jx {P : Program} {w : World} {K : PySem.W.Frag} {mg : Str → Option Value} {base : Heap} {k : Nat} {x qual : Str} {st : Stmt} {f : Addr} {fd : FuncData} {N ps : List Str} {F : List Sl → m D} (Fu : Fun K x qual st f fd) (S : FnScope N ps (defScope st))
    (hb : ∀ (as : List Sl) (n : Wd) (φ : D → Wd → Prop) (ξ : Exn → Wd → Prop), Mo.sat (F as) n φ ξ → as.length = ps.length ∧ ∀ (cdv : Value) (A : Around) (outer : List Env) (s : Shared) (H : Hp) (E : XK), Room k (A.deeper (envOfC qual (defScope st) s.heap.objs.size f cdv)) → A.guards = some [] →
      FJ (cxOf (L2N.CX P w) P w K mg base N qual (defScope st) f cdv A outer s H E) (xrOf N E) true (defBody st) (as ++ List.replicate (N.length - as.length) .any) (F as)) : FnX P w K mg base (k + 1) f fd ps (spX K mg F) := by
  refine fnx_of Fu S (fun vs H Q E ⟨G, n, dk, as, φ, ξ, a, _, s, _⟩ => a.length.trans (hb as n φ ξ s).1) fun cdv A outer s H vs Q E hr gu ⟨G, n, dk, as, φ, ξ, a, fm, st, q, qx⟩ => ⟨_, (hb as n φ ξ st).2 cdv A outer s H E hr gu, ⟨H, G, dk, G⟩, G, n, φ, ξ, ok_start a fm, st, q, fun _ σ' H' G' n' f' p => q .non H' G' .none n' f' .non p, fun e n' σ' H' G' c od he o ex => qx e c od H' G' n' o.fm ex he⟩
theorem takesX {P : Program} {w : World} {K : PySem.W.Frag} {mg : Str → Option Value} {base : Heap} {N : List Str} {qual : Str} {scope : Scope} {f : Addr} {cd : Value} {A : Around} {outer : List Env} {s : Shared} {H : Hp} {E : XK} : L2N.Takes (cxOf (L2N.CX P w) P w K mg base N qual scope f cd A outer s H E) (xrOf N E).w := L2N.takes_of rfl rfl rfl rfl
/-! ### calls of them -/
variable {X : Cx} {EX : XR} {g : List Sl} {k : Nat} {f : Addr} {fd : FuncData} {ps : List Str}
theorem call_x {pins : List (Addr × Obj)} {σ : L2.St} {H : Hp} {s : Shared} {Q : VK} {us : List Value} {vs : List V} {sp : Sp} {W : WX} (F : FnX X.prog X.w X.K X.mg X.base k f fd ps sp) (hr : Room k X.A) (gu : X.A.guards = some []) (hb : Binds X.K fd ps []) (tk : L2N.Takes X W)
    (I : Inv X pins σ H s) (r : Vals vs us) (h : sp vs H Q (WE W σ)) : wpAny (model X.prog X.w) X.A (call (.ref f) us) (EP X pins σ Q) X.xe s := by
  have hl : us.length = ps.length := by rw [← r.length]; exact F.len _ _ _ _ h
  have hb' := hb s us I.kIn (by rw [List.append_nil]; exact hl)
  rw [List.append_nil] at hb'
  refine wpAny_call (codeAny_mono (F.run X.A X.stack s H ⟨us, []⟩ us vs Q (WE W σ) hr gu I.env0 hb' r h) fun z s' hq => ?_)
  cases z with
  | error e => exact L2N.passAt tk σ pins H s e s' I hq
  | ok fl =>
    cases fl with
    | ret u => exact I.after hq
    | next => exact False.elim hq
    | brk => exact False.elim hq
    | cont => exact False.elim hq
theorem pe_x {x : Str} {p pos : Pos} {e : Expr} {es : List Expr} {t : TA} {sp : Sp} {W : WX} (F : FnX X.prog X.w X.K X.mg X.base k f fd ps sp) (hr : Room k X.A) (gu : X.A.guards = some []) (tk : L2N.Takes X W) (hg : Gl X x) (hm : X.mg x = some (.ref f)) (hk : PySem.W.keepIn X.K (.ref f) = true) (hb : Binds X.K fd ps [])
    (ha : PA X (e :: es) t) (hd : (x == ("__debug__" : Str)) = false) (he : starEach (e :: es) X.env = (false, eval e X.env) :: starEach es X.env) (hpl : (backTo pos (starEach es X.env)).any (·.1) = false) : PE X (.Call (.Name x p) (e :: es) [] pos) (fun σ H Q => t σ H fun vs H1 => sp vs H1 Q (WE W σ)) :=
  ⟨fun pins s σ H Q I h => wpAny_Call_Name_kw (ld_glob I hg hm (PySem.W.callWith_K (h₀ := X.base) I.ok.mod.kin hk (thn (ha.run pos pins s σ H _ I h) fun us s1 ⟨vs, H1, I1, r, q⟩ => ⟨I1.kIn, call_x F hr gu hb tk I1 r q⟩) he hpl) hd)⟩
/-- f(..) by its mirror, what it raises goes on -/
theorem ej_callX {x : Str} {p pos : Pos} {e : Expr} {es : List Expr} {F : List Sl → m D} {y : m (List Sl)} (Fn : FnX X.prog X.w X.K X.mg X.base k f fd ps (spX X.K X.mg F)) (hr : Room k X.A) (gu : X.A.guards = some []) (tk : L2N.Takes X EX.w) (sb : Sub g EX.g) (hm : X.mg x = some (.ref f)) (hk : PySem.W.keepIn X.K (.ref f) = true) (hb : Binds X.K fd ps [])
    (ha : AJ X EX (e :: es) g y) (hg : Gl X x := by rfl) (hd : (x == ("__debug__" : Str)) = false := by decide) (he : starEach (e :: es) X.env = (false, eval e X.env) :: starEach es X.env := by rfl) (hpl : (backTo pos (starEach es X.env)).any (·.1) = false := by rfl) :
    EJ X EX (.Call (.Name x p) (e :: es) [] pos) g (y >>= F) :=
  (pe_x Fn hr gu tk hg hm hk hb ha hd he hpl).weak fun σ H Q ⟨B, G, n, φ, ξ, o, s, q, xw⟩ => ⟨B, G, n, _, ξ, o, Mo.sat_bind s, fun vs H1 G1 as n1 o1 g1 a1 s1 =>
    ⟨G1, n1, B.dk, as, φ, ξ, ArgsOk.base (B := B) (B' := ⟨H1, G1, B.dk, G1⟩) rfl a1, o1.fm.at_call, s1, fun v H' G' d n' f' dv p => by
      obtain ⟨o2, g2⟩ := Fm.back o1 (.inr rfl) f'
      exact q v H' G' d n' o2 (g1.trans g2) dv p, fun e' c od H' G' n' f' ex hx => by
      obtain ⟨o2, g2⟩ := Fm.back o1 (.inr rfl) f'
      exact xw e' n' σ H' G' c od hx (o2.forget sb) ex⟩, xw⟩
end
end DD
namespace DD
open PySem PySem.Spec PyProof.Rows L2
theorem sub_any : ∀ {g h : List Sl}, (h.all fun s => match s with | .any => true | _ => false) = true → h.length = g.length → Sub g h
  | [], [], _, _ => trivial
  | _ :: _, [], _, e => by simp at e
  | [], _ :: _, _, e => by simp at e
  | a :: g, b :: h, e, l => by
    rw [List.all_cons, Bool.and_eq_true] at e
    refine ⟨.inl ?_, sub_any e.2 (by simpa using l)⟩
    cases b with
    | any => rfl
    | _ => cases e.1
/-! ### raise C(e), C with an __init__ that stores one field -/
def spInit (C : Addr) (fl : Str) : Sp := fun vs H Q _ => ∃ a y, vs = [.ref a, y] ∧ H a = some (exo a C none) ∧ ∀ dx, H dx = none → dx ≠ a → Q .non (upd (upd H dx (exd dx [(fl, y)])) a (exo a C (some dx)))
theorem init_ok {P : Program} {w : World} {K : PySem.W.Frag} {mg : Str → Option Value} {base : Heap} {qual : Str} {st : Stmt} {f C : Addr} {fd : FuncData} {p0 p1 fl : Str} {q1 q2 q3 q4 : Pos} (F : Fun K "__init__" qual st f fd) (S : FnScope [p0, p1] [p0, p1] (defScope st)) (hb : defBody st = [.Assign [.Attribute (.Name p0 q1) fl q2] (.Name p1 q3) q4])
    (T : OexC K C) (hno : PySem.W.findIn K (.ref C) fl = some none)
    (hp : ∀ (cdv : Value) (A : Around) (outer : List Env) (s : Shared) (H : Hp) (E : XK), PSs (cxOf CX0 P w K mg base [p0, p1] qual (defScope st) f cdv A outer s H E).nox (defBody st) (fun D σ H => tOst K fl (tVar 0) (tVar 1) D σ H)) : FnOk P w K mg base CX0 1 f fd [p0, p1] (spInit C fl) := by
  refine F.ok S (fun vs H Q E ⟨a, y, e, _⟩ => by rw [e]; rfl) fun cdv A outer s H vs Q E _ ⟨a, y, e, ha, q⟩ => ⟨_, hp cdv A outer s H E, ?_⟩
  subst e
  refine ⟨y, rfl, .ref a, rfl, a, C, rfl, T, hno, .inl ⟨ha, fun dx h1 h2 => q dx h1 h2⟩⟩
/-- what the law's text says of an error's class with one field -/
structure Er1 (P : Program) (w : World) (K : PySem.W.Frag) (mg : Str → Option Value) (base : Heap) (c fl : Str) (C : Addr) : Prop where
  nm : mg c = some (.ref C)
  T : OexC K C
  ini : ∃ fI fd ps, PySem.W.findIn K (.ref C) "__init__" = some (some (.ref fI)) ∧ PySem.W.typeIn K (.ref fI) = some (.type "function") ∧ FnOk P w K mg base CX0 1 fI fd ps (spInit C fl) ∧ Binds K fd ps []
section
variable {m : Type → Type} [Mo m] [MoX m] {A : Type} {X : Cx} {EX : XR} {g : List Sl} {fall : Bool}
theorem raise1 {c fl : Str} {C : Addr} {e : Expr} {p pos pos2 : Pos} {y : m D} (R : Er1 X.prog X.w X.K X.mg X.base c fl C) (hr : Room 2 X.A) (hc : X.calm = true) (tk : L2N.Takes X EX.w) (sb : Sub g EX.g) (he : EJ X EX e g y) (hg : Gl X c) (hd : (c == ("__debug__" : Str)) = false) (hs : starEach [e] X.env = (false, eval e X.env) :: starEach [] X.env) (hpl : (backTo pos (starEach [] X.env)).any (·.1) = false)
    {σ : L2.St} {H : Hp} {De : Ends} {α : Type} (h : ∃ B G n φ ξ, Ok X.K B g σ H G n ∧ Mo.sat (y >>= fun d => (MoX.throw ⟨c, [(fl, d)]⟩ : m α)) n φ ξ ∧ Xw X B EX ξ) : ∃ t, PS X (.Raise (some (.Call (.Name c p) [e] [] pos)) none pos2) t ∧ t De σ H := by
  obtain ⟨fI, fd, ps, i1, i2, i3, i4⟩ := R.ini
  refine ⟨_, L2N.ps_raise hc tk (pmk_oexN R.T i1 i2 i3 hr i4 .nil pass0 hg R.nm (pa_cons he pa_nil hs) hd hs hpl), ?_⟩
  obtain ⟨B, G, n, φ, ξ, o, s, xw⟩ := h
  refine te_one o s (fun v H1 G1 d n1 o1 g1 d1 s1 => ⟨by simp, fun a ha => ⟨a, v, rfl, upd_same, fun dx hdx hne => ⟨rfl, dx, [(fl, v)], upd_same, ?_, ?_, ?_⟩⟩⟩) xw
  · rw [upd_ne hne, upd_same]
  · rw [upd_ne hne] at hdx; exact hdx
  · have hd1 : H1 dx = none := by rw [upd_ne hne] at hdx; exact hdx
    have eH : (upd (del (upd (upd (upd H1 a (exo a C none)) dx (exd dx [(fl, v)])) a (exo a C (some dx))) a) dx (.xd [(fl, v)])) = upd H1 dx (.xd [(fl, v)]) := by
      funext b
      by_cases hb : b = dx
      · rw [hb, upd_same, upd_same]
      · rw [upd_ne hb, upd_ne hb]
        by_cases hba : b = a
        · rw [hba, del_same, ha]
        · rw [del_ne hba, upd_ne hba, upd_ne hb, upd_ne hba]
    show EX.w (.ref C) (some dx) σ _
    rw [eH]
    obtain ⟨o2, g2⟩ := o1.alloc (u := .xd [(fl, v)]) hd1
    exact xw ⟨c, [(fl, d)]⟩ n1 σ _ _ (.ref C) (some dx) (MoX.sat_throw s1) (o2.forget sb) ⟨C, R.nm, rfl, .inr ⟨dx, _, rfl, upd_same, rfl, .cons (d1.mono g2) .nil⟩⟩
theorem fj_raise1 {c fl : Str} {C : Addr} {e : Expr} {p pos pos2 : Pos} {rest : List Stmt} {y : m D} (R : Er1 X.prog X.w X.K X.mg X.base c fl C) (hr : Room 2 X.A) (hc : X.calm = true) (tk : L2N.Takes X EX.w) (sb : Sub g EX.g) (he : EJ X EX e g y) (hg : Gl X c := by rfl) (hd : (c == ("__debug__" : Str)) = false := by decide) (hs : starEach [e] X.env = (false, eval e X.env) :: starEach [] X.env := by rfl) (hpl : (backTo pos (starEach [] X.env)).any (·.1) = false := by rfl) :
    FJ X EX fall (.Raise (some (.Call (.Name c p) [e] [] pos)) none pos2 :: rest) g (y >>= fun d => MoX.throw ⟨c, [(fl, d)]⟩) :=
  ⟨fun pins s σ H De I ⟨B, G, n, φ, ξ, o, st, q1, q2, xw⟩ => by
    obtain ⟨t, h1, h2⟩ := raise1 (α := D) (De := { De with nx := fun _ _ => False }) R hr hc tk sb he hg hd hs hpl ⟨B, G, n, φ, ξ, o, st, xw⟩
    exact (pss_cons h1 (u := tNever) ⟨fun _ _ _ _ _ _ h => h.elim⟩).run pins s σ H De I h2⟩
end
/-! ### try: body, except C as n: suite -/
section
variable {K : PySem.W.Frag} {B : Bs} {g : List Sl} {σ : L2.St} {H G : Hp} {n : Wd}
theorem Ok.setX (o : Ok K B g σ H G n) {i : Nat} {a : Addr} {od : Option Addr} {fs : List (Str × D)} (h : XdAt K G od fs) : Ok K B (g.set i (.exn a od fs)) (σ.set i (some (.ref a))) H G n where
  fm := o.fm
  len := by rw [List.length_set, List.length_set, o.len]
  val := fun j e he => by
    by_cases hj : i = j
    · subst hj
      by_cases hl : i < g.length
      · rw [List.getElem?_set_self hl] at he; cases he
      · rw [List.getElem?_eq_none (by rw [List.length_set]; omega)] at he; cases he
    · rw [List.getElem?_set_ne hj] at he ⊢
      exact o.val j e he
  own := by
    obtain ⟨f, h1, h2⟩ := o.own
    have out : ∀ (j : Nat) (ds : List D), (g.set i (.exn a od fs))[j]? = some (Sl.own ds) → i ≠ j ∧ g[j]? = some (Sl.own ds) := fun j ds e => by
      by_cases hj : i = j
      · subst hj
        by_cases hl : i < g.length
        · rw [List.getElem?_set_self hl] at e; cases e
        · rw [List.getElem?_eq_none (by rw [List.length_set]; omega)] at e; cases e
      · rw [List.getElem?_set_ne hj] at e
        exact ⟨hj, e⟩
    refine ⟨f, fun j k ds es a b => h1 j k ds es (out j ds a).2 (out k es b).2, fun j ds e => ?_⟩
    obtain ⟨hj, e⟩ := out j ds e
    rw [List.getElem?_set_ne hj]
    exact h2 j ds e
  dck := fun j e => by
    by_cases hj : i = j
    · subst hj
      by_cases hl : i < g.length
      · rw [List.getElem?_set_self hl] at e; cases e
      · rw [List.getElem?_eq_none (by rw [List.length_set]; omega)] at e; cases e
    · rw [List.getElem?_set_ne hj] at e ⊢
      exact o.dck j e
  adr := fun j b od' fs' e => by
    by_cases hj : i = j
    · subst hj
      by_cases hl : i < g.length
      · rw [List.getElem?_set_self hl] at e
        cases e
        exact ⟨by rw [List.getElem?_set_self (by rw [← o.len]; exact hl)], h⟩
      · rw [List.getElem?_eq_none (by rw [List.length_set]; omega)] at e; cases e
    · rw [List.getElem?_set_ne hj] at e ⊢
      exact o.adr j b od' fs' e
  fnc := fun j b fs' e => by
    by_cases hj : i = j
    · subst hj
      by_cases hl : i < g.length
      · rw [List.getElem?_set_self hl] at e
        cases e
      · rw [List.getElem?_eq_none (by rw [List.length_set]; omega)] at e; cases e
    · rw [List.getElem?_set_ne hj] at e ⊢
      exact o.fnc j b fs' e
/-- the data that stand now are remembered -/
abbrev Bs.tag (B : Bs) (T : Hp) : Bs := { B with tG := T }
theorem Fm.tag (f : Fm K B H G n) {T : Hp} (h : Same T G) : Fm K (B.tag T) H G n := ⟨f.keep, f.sub, f.old, f.obs, f.bt, h, f.new, f.deck⟩
theorem Fm.untag {T : Hp} (f : Fm K (B.tag T) H G n) (h : Same B.tG G) : Fm K B H G n := ⟨f.keep, f.sub, f.old, f.obs, f.bt, h, f.new, f.deck⟩
theorem Ok.tag (o : Ok K B g σ H G n) {T : Hp} (h : Same T G) : Ok K (B.tag T) g σ H G n := ⟨o.fm.tag h, o.len, o.val, o.own, o.dck, o.adr, o.fnc⟩
theorem Ok.untag {T : Hp} (o : Ok K (B.tag T) g σ H G n) (h : Same B.tG G) : Ok K B g σ H G n := ⟨o.fm.untag h, o.len, o.val, o.own, o.dck, o.adr, o.fnc⟩
/-- a slot of which nothing is known goes -/
theorem Ok.unset (o : Ok K B g σ H G n) {i : Nat} (h : g[i]? = some Sl.any) : Ok K B g (σ.set i none) H G n where
  fm := o.fm
  len := by rw [List.length_set, o.len]
  val := fun j e he => by
    have : i ≠ j := by rintro rfl; rw [h] at he; cases he
    rw [List.getElem?_set_ne this]
    exact o.val j e he
  own := by
    obtain ⟨f, h1, h2⟩ := o.own
    refine ⟨f, h1, fun j ds e => ?_⟩
    have : i ≠ j := by rintro rfl; rw [h] at e; cases e
    rw [List.getElem?_set_ne this]
    exact h2 j ds e
  dck := fun j e => by
    have : i ≠ j := by rintro rfl; rw [h] at e; cases e
    rw [List.getElem?_set_ne this]
    exact o.dck j e
  adr := fun j b od fs e => by
    have : i ≠ j := by rintro rfl; rw [h] at e; cases e
    rw [List.getElem?_set_ne this]
    exact o.adr j b od fs e
  fnc := fun j b fs e => by
    have : i ≠ j := by rintro rfl; rw [h] at e; cases e
    rw [List.getElem?_set_ne this]
    exact o.fnc j b fs e
end
section
variable {m₁ m : Type → Type} [Mo m₁] [Mo m] [Tr m₁ m] {A : Type} {X : Cx} {EX : XR} {g gk : List Sl}
/-- the suite's mirrors, by the error's class -/
def exc1 {α : Type} (c f : Str) (e : Exn) (h : D → m α) (r : m α) : m α := if e.cls = c then (match e.fs with
  | [(f', d)] => if f' = f then h d else Mo.lift none
  | _ => Mo.lift none) else r
theorem exc1_pick {α : Type} {c f : Str} {e : Exn} {h : D → m α} {r : m α} {n : Wd} {φ : α → Wd → Prop} {ξ : Exn → Wd → Prop} {Q : Prop} (s : Mo.sat (exc1 c f e h r) n φ ξ) (h1 : e.cls = c → Q) (h2 : Mo.sat r n φ ξ → Q) : Q := by
  unfold exc1 at s
  split at s
  · rename_i z; exact h1 z
  · exact h2 s
theorem no_sat {α : Type} {n : Wd} {φ : α → Wd → Prop} {ξ : Exn → Wd → Prop} {Q : Prop} (s : Mo.sat (Mo.lift none : m α) n φ ξ) : Q := by
  obtain ⟨_, e, _⟩ := Mo.sat_lift s
  cases e
theorem bj_exc1 {c f : Str} {e : Exn} {ss : List Stmt} {h : D → m (Fl A)} {r : m (Fl A)} {P : A → List Sl} {EX : XR} {X : Cx} (h1 : ∀ d, e.cls = c → e.fs = [(f, d)] → BJ X EX ss g (h d) P) (h2 : BJ X EX ss g r P) : BJ X EX ss g (exc1 c f e h r) P := by
  unfold exc1
  by_cases z : e.cls = c
  · rw [if_pos z]
    obtain ⟨cl, fs⟩ := e
    match fs with
    | [(f', d)] =>
      dsimp only
      by_cases zf : f' = f
      · rw [if_pos zf]; exact h1 d z (by rw [zf])
      · rw [if_neg zf]
        exact ⟨fun pins s σ H De I ⟨B, G, n, φ, ξ, o, st, _⟩ => no_sat st⟩
    | [] => exact ⟨fun pins s σ H De I ⟨B, G, n, φ, ξ, o, st, _⟩ => no_sat st⟩
    | _ :: _ :: _ => exact ⟨fun pins s σ H De I ⟨B, G, n, φ, ξ, o, st, _⟩ => no_sat st⟩
  · rw [if_neg z]; exact h2
theorem bj_no {ss : List Stmt} {P : A → List Sl} {EX : XR} {X : Cx} : BJ X EX ss g (Mo.lift none : m (Fl A)) P := ⟨fun pins s σ H De I ⟨B, G, n, φ, ξ, o, st, _⟩ => no_sat st⟩
/-- what a suite may lean on -/
structure Held (X : Cx) (e : Exn) (a : Addr) (oe : Obj) (od : Option Addr) (C : Addr) : Prop where
  nm : X.mg e.cls = some (.ref C)
  zc : L2N.Zn (.ref C) od oe
  da : ∃ vs, oe.data = .fields vs
theorem try_as (i : Nat) {x n : Str} {cv : Value} {body suite : List Stmt} {b₀ : Stmt} {np pos pos' : Pos} {P : A → List Sl} {y : m₁ (Fl A)} {h : Exn → m (Fl A)}
    (hs : X.stack = X.env :: X.outer) (hf : X.env.frame = some X.env.locals) (hN : X.N.Nodup) (hi : X.N[i]? = some n) (hln : X.env.kindOf n = some .local) (hc : Names X x cv) (tk : L2N.Takes X EX.w)
    (hct : ∀ (e : Exn) (n : Wd) (φ : Fl A → Wd → Prop) (ξ : Exn → Wd → Prop), Mo.sat (h e) n φ ξ → ∀ C, X.mg e.cls = some (.ref C) → PySem.W.exmOne X.K (.ref C) cv = some true)
    (hP : ∀ a, (P a)[i]? = some Sl.any)
    (hb : ∀ (W : WX) (pn : List (Addr × Obj)) (xe : Value → Shared → Prop), L2N.Takes (X.tr pn xe) W → PassesOwn (model X.prog X.w) X.A X.env xe → BJ (X.tr pn xe) ⟨W, gk⟩ body g y P)
    (hsu : ∀ (e : Exn) (a : Addr) (oe : Obj) (od : Option Addr) (C : Addr) (pn : List (Addr × Obj)), Held X e a oe od C → BJ (X.suite a ((a, oe) :: pn)) X0 (b₀ :: suite) (gk.set i (.exn a od e.fs)) (h e) P) [Calm m] :
    PS X (.Try body [.ExceptHandler (some (.Name x np)) (some n) (b₀ :: suite) pos'] [] [] pos) (tbJ X EX g (Tr.try_ y h) P) := by
  refine (L2N.ps_try_as (tb := fun W => tbJ X ⟨W, gk⟩ g y P) (ts := fun a cls od De σ H => ∃ t : { t : Exn × Addr // X.mg t.1.cls = some (.ref t.2) ∧ cls = .ref t.2 }, tbJ X X0 (gk.set i (.exn a od t.1.1.fs)) (h t.1.1) P De σ H) hs hf hN hi hln hc tk (fun W pn xe t p => hb W pn xe t p)
    fun a oe cls od pn hz hd => pss_any fun t => ?_).weak fun De σ H ⟨B, G, n, φ, ξ, o, s, q1, q2, xw⟩ => ⟨B.tag G, G, n, φ, _, o.tag (Same.refl _), Tr.sat_try s, fun b τ H2 G2 n2 o2 g2 p2 => q1 b τ H2 G2 n2 (o2.untag (o.fm.tg.trans g2)) g2 p2, fun v H2 G2 d n2 f2 dv p2 => q2 v H2 G2 d n2 (f2.untag (o.fm.tg.trans f2.tg)) dv p2, fun e n' σ' H' G' c od he o' ex => ?_⟩
  · obtain ⟨⟨e, C⟩, h1, h2⟩ := t
    dsimp only at h1 h2
    subst h2
    exact hsu e a oe od C pn ⟨h1, hz, hd⟩
  · obtain ⟨C, k1, k2, k3⟩ := ex
    subst k2
    have gg : Same G G' := o'.fm.tg
    have o'' := o'.untag (B := B) (o.fm.tg.trans gg)
    refine ⟨true, hct e n' φ ξ he C k1, fun _ a ha => ⟨⟨(e, C), k1, rfl⟩, B, G', n', φ, fun _ _ => False, o''.setX k3, Calm.calm he, fun b τ H2 G2 n2 o2 g2 p2 => ?_, q2, fun _ _ _ _ _ _ _ z => z.elim⟩, fun z => by cases z⟩
    exact q1 b _ H2 G2 n2 (o2.unset (hP b)) (gg.trans g2) p2
end
end DD
namespace DD
open PySem PySem.Spec PyProof.Rows L2
/-! ### in an except suite: isinstance, the error's fields -/
/-- what the written part says of an error's class -/
structure ErK (K : PySem.W.Frag) (C : Addr) : Prop where
  hcl : (PySem.W.clsIn K C).isSome = true
  hga : PySem.W.findIn K (.ref C) "__getattribute__" = some (some (.builtin "BaseException.__getattribute__"))
  hgt : PySem.W.findIn K (.ref C) "__getattr__" = some none
  hsub : PySem.W.subIn K (.ref C) (.type "BaseException") = some true
  hdC : PySem.W.hasDictIn K C = true
  ha : PySem.W.findIn K (.ref C) "__class__" = some (some (.builtin "object.__class__"))
  hn : PySem.W.specialIn K (.builtin "object.__class__") "__get__" = some (some (.builtin "getset_descriptor.__get__"))
  ht : PySem.W.takesIn K (.builtin "object.__class__") = some true
  hm : PySem.W.mroIn K C (.type "object") = some true
section
variable {X : Cx} {a C : Addr} {oe : Obj} {od : Option Addr} {pn : List (Addr × Obj)}
/-- the held error as an instance -/
theorem held_inst {pins : List (Addr × Obj)} {σ : L2.St} {H : Hp} {s : Shared} (I : Inv (X.suite a ((a, oe) :: pn)) pins σ H s) (hz : L2N.Zn (.ref C) od oe) (hf : ∃ vs, oe.data = .fields vs) (hd : od = none ∨ ∃ dx vs, od = some dx ∧ H dx = some (.xd vs)) : ∃ o, PySem.W.InstAt s.heap a oe C o := by
  obtain ⟨ha, _⟩ := I.pin (a, oe) (List.mem_append.mpr (.inl List.mem_cons_self))
  obtain ⟨vs, hv⟩ := hf
  have no : PySem.W.notCls oe = true := by unfold PySem.W.notCls; rw [hv] <;> rfl
  rcases hd with rfl | ⟨dx, fs, rfl, hx⟩
  · exact ⟨none, ha, hz.1, no, by rw [hz.2.1]; trivial⟩
  · obtain ⟨mA, hns, _⟩ := (show ObjOk X.prog X.w H s.heap dx (.xd fs) from I.hok dx _ hx)
    obtain ⟨o, es, ep, e1, _⟩ := hns
    exact ⟨some o, ha, hz.1, no, by rw [hz.2.1]; exact e1⟩
def rIsX (K : PySem.W.Frag) (C a : Addr) (od : Option Addr) : List V → Hp → VK → Prop := fun xs H Q => ∃ (c : V) (u : Value) (b : Bool), xs = [.ref a, c] ∧ ClsV c u ∧ PySem.W.kitOne K (.ref C) u = some b ∧ (od = none ∨ ∃ dx vs, od = some dx ∧ H dx = some (.xd vs)) ∧ Q (.bl b) H
def rIsXT (K : PySem.W.Frag) (C a : Addr) (od : Option Addr) : List V → Hp → VK → Prop := fun xs H Q => ∃ (tp : Addr) (cs : List V) (us : List Value) (b : Bool), xs = [.ref a, .ref tp] ∧ H tp = some (.tup cs) ∧ Paired ClsV cs us ∧ PySem.W.kitAny K (.ref C) us = some b ∧ (od = none ∨ ∃ dx vs, od = some dx ∧ H dx = some (.xd vs)) ∧ Q (.bl b) H
theorem call_isX (T : ErK X.K C) (hz : L2N.Zn (.ref C) od oe) (hf : ∃ vs, oe.data = .fields vs) : CallR (X.suite a ((a, oe) :: pn)) (.builtin "isinstance") (rIsX X.K C a od) := by
  intro pins s σ H xs us Q I r ⟨c, u, b, e, k, hk, hd, q⟩
  subst e
  obtain ⟨u1, u2, rfl, r1, r2⟩ := vals2 r
  have e2 := k.eq r2
  subst e2
  cases r1
  obtain ⟨o, J⟩ := held_inst I hz hf hd
  exact PySem.W.kia_one (PySem.W.kitx_exc T.hcl T.hga T.hgt T.hsub T.ha T.hn T.ht T.hm) I.kIn J hk (fun z => nomatch z) fun tk => ⟨.bl b, H, I.tok tk, rfl, q⟩
theorem call_isXT (T : ErK X.K C) (hz : L2N.Zn (.ref C) od oe) (hf : ∃ vs, oe.data = .fields vs) : CallR (X.suite a ((a, oe) :: pn)) (.builtin "isinstance") (rIsXT X.K C a od) := by
  intro pins s σ H xs us Q I r ⟨tp, cs, ws, b, e, hT, k, hk, hd, q⟩
  subst e
  obtain ⟨u1, u2, rfl, r1, r2⟩ := vals2 r
  cases (show u2 = Value.ref tp from r2)
  cases r1
  obtain ⟨o, J⟩ := held_inst I hz hf hd
  obtain ⟨_, its, rv, ob, h1, h2, n, h3⟩ := (show ObjOk X.prog X.w H s.heap tp (.tup cs) from I.hok tp _ hT)
  have e3 := ClsV.all k rv
  subst e3
  obtain ⟨oc, odd, dt, sl⟩ := ob
  simp only at h2 h3
  subst h2 h3
  exact PySem.W.kia_tup (PySem.W.kitx_exc T.hcl T.hga T.hgt T.hsub T.ha T.hn T.ht T.hm) I.kIn J h1 hk (fun z => nomatch z) fun tk => ⟨.bl b, H, I.tok tk, rfl, q⟩
end
/-- a class by its name -/
def clsV : Value → V
  | .type T => .ty T
  | .ref C => .ref C
  | _ => .non
theorem cls_pe {X : Cx} {x : Str} {u : Value} {pos : Pos} (h : Names X x u) (hu : ClsV (clsV u) u) : PE X (.Name x pos) (tC (clsV u)) := by
  obtain ⟨hg, hd, h | ⟨h1, h2, h3⟩⟩ := h
  · cases hu' : u with
    | ref C =>
      subst hu'
      exact pe_glob (v := .ref C) hg h rfl hd
    | type T =>
      subst hu'
      exact pe_glob (v := .ty T) hg h rfl hd
    | _ => subst hu'; cases hu
  · cases hu' : u with
    | ref C =>
      subst hu'
      exact pe_bltn (v := .ref C) hg h1 h2 rfl h3 hd
    | type T =>
      subst hu'
      exact pe_bltn (v := .ty T) hg h1 h2 rfl h3 hd
    | _ => subst hu'; cases hu
theorem ClsV.ofT (T : String) : ClsV (clsV (.type T)) (.type T) := .ty T
theorem ClsV.ofC (C : Addr) : ClsV (clsV (.ref C)) (.ref C) := .own C
inductive PClss (X : Cx) : List Expr → List Value → Prop
  | nil : PClss X [] []
  | cons {x : Str} {pos : Pos} {es : List Expr} {u : Value} {us : List Value} : Names X x u → ClsV (clsV u) u → starEach (.Name x pos :: es) X.env = (false, eval (.Name x pos) X.env) :: starEach es X.env → PClss X es us → PClss X (.Name x pos :: es) (u :: us)
def tClss : List Value → TA
  | [] => tNil
  | u :: us => tCons (tC (clsV u)) (tClss us)
theorem PClss.pa {X : Cx} : ∀ {es : List Expr} {us : List Value}, PClss X es us → PA X es (tClss us)
  | _, _, .nil => pa_nil
  | _, _, .cons h k s r => pa_cons (cls_pe h k) r.pa s
theorem PClss.vs {X : Cx} : ∀ {es : List Expr} {us : List Value}, PClss X es us → Paired ClsV (us.map clsV) us
  | _, _, .nil => .nil
  | _, _, .cons _ k _ r => .cons k r.vs
theorem tClss_run {us : List Value} {σ : L2.St} {H : Hp} {Q : List V → Hp → Prop} (q : Q (us.map clsV) H) : tClss us σ H Q := by
  induction us generalizing Q with
  | nil => exact q
  | cons u us ih => exact ih (Q := fun vs H' => Q (clsV u :: vs) H') q
theorem clss_suite {X : Cx} {a : Addr} {q : List (Addr × Obj)} : ∀ {es : List Expr} {us : List Value}, PClss X es us → PClss (X.suite a q) es us
  | _, _, .nil => .nil
  | _, _, .cons h k s r => .cons h k s (clss_suite r)
section
variable {m : Type → Type} [Mo m] {X : Cx} {EX : XR} {g : List Sl} {e : Exn} {a C : Addr} {oe : Obj} {od : Option Addr} {pn : List (Addr × Obj)}
theorem XdAt.inH {K : PySem.W.Frag} {G H : Hp} {fs : List (Str × D)} (h : XdAt K G od fs) (s : SubM G H) : od = none ∨ ∃ dx vs, od = some dx ∧ H dx = some (.xd vs) := by
  rcases h with ⟨_, h⟩ | ⟨dx, vs, h1, h2, _⟩
  · exact .inl h
  · exact .inr ⟨dx, vs, h1, s.h _ _ h2 rfl⟩
/-- isinstance(e, c) -/
theorem ej_isX (i : Nat) {fs : List (Str × D)} {b : Bool} {n cx : Str} {u : Value} {p p1 p2 pos : Pos} (hh : Held X e a oe od C) (T : ErK X.K C) (hk : PySem.W.kitOne X.K (.ref C) u = some b) (hc : Names X cx u) (hu : ClsV (clsV u) u) (hm : X.mg "isinstance" = none) (hs : g[i]? = some (Sl.exn a od fs) := by rfl) (hN : X.N[i]? = some n := by rfl) (hv : Vis X.env.scope n := by first | exact Or.inl rfl | exact Or.inr (Or.inl rfl) | exact Or.inr (Or.inr rfl)) (hd : (n == ("__debug__" : Str)) = false := by decide)
    (hcd : (n == ("__classdict__" : Str)) = false := by decide) (hg : Gl X "isinstance" := by rfl) (s1 : starEach [.Name n p1, .Name cx p2] X.env = (false, eval (.Name n p1) X.env) :: starEach [.Name cx p2] X.env := by rfl) (s2 : starEach [.Name cx p2] X.env = (false, eval (.Name cx p2) X.env) :: starEach [] X.env := by rfl) :
    EJ (m := m) (X.suite a ((a, oe) :: pn)) EX (.Call (.Name "isinstance" p) [.Name n p1, .Name cx p2] [] pos) g (pure (.bool b)) :=
  (pe_callB (X := X.suite a ((a, oe) :: pn)) (call_isX T hh.zc hh.da) hg hm (by decide +kernel) (pa_cons (pe_var (X := X.suite a ((a, oe) :: pn)) hN hv hd hcd) (pa_cons (cls_pe (X := X.suite a ((a, oe) :: pn)) hc hu) pa_nil s2) s1) (by decide) (by decide) s1 (by rw [s2]; rfl)).weak fun σ H Q ⟨B, G, n, φ, ξ, o, s, q, _⟩ => by
    obtain ⟨e1, e2⟩ := o.adr i a od fs hs
    exact ⟨.ref a, e1, clsV u, u, b, rfl, hu, hk, e2.inH o.fm.sub, q _ H G _ n o (Same.refl _) (.bl b) (Mo.sat_pure s)⟩
/-- isinstance(e, (c, ..)) -/
theorem ej_isXT (i : Nat) {fs : List (Str × D)} {b : Bool} {n : Str} {es : List Expr} {us : List Value} {p p1 p2 pos : Pos} {j} (hh : Held X e a oe od C) (T : ErK X.K C) (hk : PySem.W.kitAny X.K (.ref C) us = some b) (hc : PClss X es us) (hm : X.mg "isinstance" = none) (hl : us.length ≤ 1000 := by simp) (hs : g[i]? = some (Sl.exn a od fs) := by rfl) (hN : X.N[i]? = some n := by rfl) (hv : Vis X.env.scope n := by first | exact Or.inl rfl | exact Or.inr (Or.inl rfl) | exact Or.inr (Or.inr rfl)) (hd : (n == ("__debug__" : Str)) = false := by decide)
    (hcd : (n == ("__classdict__" : Str)) = false := by decide) (hg : Gl X "isinstance" := by rfl) (s1 : starEach [.Name n p1, .Tuple es j p2] X.env = (false, eval (.Name n p1) X.env) :: starEach [.Tuple es j p2] X.env := by rfl) (s2 : starEach [.Tuple es j p2] X.env = (false, eval (.Tuple es j p2) X.env) :: starEach [] X.env := by rfl) :
    EJ (m := m) (X.suite a ((a, oe) :: pn)) EX (.Call (.Name "isinstance" p) [.Name n p1, .Tuple es j p2] [] pos) g (pure (.bool b)) :=
  (pe_callB (X := X.suite a ((a, oe) :: pn)) (call_isXT T hh.zc hh.da) hg hm (by decide +kernel) (pa_cons (pe_var (X := X.suite a ((a, oe) :: pn)) hN hv hd hcd) (pa_cons (pe_tup (X := X.suite a ((a, oe) :: pn)) (PClss.pa (X := X.suite a ((a, oe) :: pn)) (clss_suite hc))) pa_nil s2) s1) (by decide) (by decide) s1 (by rw [s2]; rfl)).weak fun σ H Q ⟨B, G, n, φ, ξ, o, s, q, _⟩ => by
    obtain ⟨e1, e2⟩ := o.adr i a od fs hs
    refine ⟨.ref a, e1, tClss_run ⟨by rw [List.length_map]; exact le_line (Nat.le_trans hl (by decide)), fun tp hp => ?_⟩⟩
    obtain ⟨o2, g2⟩ := o.alloc (u := .tup (us.map clsV)) hp
    exact ⟨tp, us.map clsV, us, b, rfl, upd_same, hc.vs, hk, (e2.mono g2).inH o2.fm.sub, q _ _ _ _ n o2 g2 (.bl b) (Mo.sat_pure s)⟩
/-- e.f -/
theorem ej_xf (i : Nat) {f n : Str} {d : D} {p pos : Pos} (hh : Held X e a oe od C) (T : ErK X.K C) (hno : PySem.W.findIn X.K (.ref C) f = some none) (hs : g[i]? = some (Sl.exn a od [(f, d)]) := by rfl) (hN : X.N[i]? = some n := by rfl) (hv : Vis X.env.scope n := by first | exact Or.inl rfl | exact Or.inr (Or.inl rfl) | exact Or.inr (Or.inr rfl)) (hd : (n == ("__debug__" : Str)) = false := by decide)
    (hcd : (n == ("__classdict__" : Str)) = false := by decide) (hb : attributeBase (.Name n p) f X.env (eval (.Name n p) X.env) = eval (.Name n p) X.env := by rfl) :
    EJ (m := m) (X.suite a ((a, oe) :: pn)) EX (.Attribute (.Name n p) f pos) g (pure d) :=
  (pe_xf (X := X) (n := f) ⟨T.hga, T.hgt, T.hsub, T.hdC⟩ hno hh.zc.zc hh.da (pe_var (X := X.suite a ((a, oe) :: pn)) hN hv hd hcd) hb).weak fun σ H Q ⟨B, G, n, φ, ξ, o, s, q, _⟩ => by
    obtain ⟨e1, e2⟩ := o.adr i a od _ hs
    rcases e2 with ⟨e3, _⟩ | ⟨dx, vs, h1, h2, h3, h4⟩
    · cases e3
    · match vs, h3, h4 with
      | [(f', v)], h3, .cons h5 _ =>
        have : f' = f := by simpa using h3
        subst this
        exact ⟨.ref a, e1, rfl, rfl, dx, [(f', v)], v, h1, o.fm.sub.h _ _ h2 rfl, by simp [List.lookup], q v H G d n o (Same.refl _) h5 (Mo.sat_pure s)⟩
end
end DD
namespace DD
open PySem PySem.Spec PyProof.Rows L2
/-! ### raising defs with a star parameter -/
structure DefX (P : Program) (w : World) (K : PySem.W.Frag) (mg : Str → Option Value) (base : Heap) (k : Nat) (x : Str) (ps : List Str) (sp : Sp) : Prop where
  ex : ∃ f fd, FnX P w K mg base k f fd ps sp ∧ mg x = some (.ref f) ∧ PySem.W.keepIn K (.ref f) = true ∧ Binds K fd ps []
section
variable {m : Type → Type} [Mo m] {X : Cx} {EX : XR} {g : List Sl} {k : Nat} {f : Addr} {ps : List Str}
theorem ej_callXD {x : Str} {p pos : Pos} {e : Expr} {es : List Expr} {F : List Sl → m D} {y : m (List Sl)} (Fn : DefX X.prog X.w X.K X.mg X.base k x ps (spX X.K X.mg F)) (hr : Room k X.A) (gu : X.A.guards = some []) (tk : L2N.Takes X EX.w) (sb : Sub g EX.g)
    (ha : AJ X EX (e :: es) g y) (hg : Gl X x := by rfl) (hd : (x == ("__debug__" : Str)) = false := by decide) (he : starEach (e :: es) X.env = (false, eval e X.env) :: starEach es X.env := by rfl) (hpl : (backTo pos (starEach es X.env)).any (·.1) = false := by rfl) :
    EJ X EX (.Call (.Name x p) (e :: es) [] pos) g (y >>= F) := by
  obtain ⟨f, fd, h1, h2, h3, h4⟩ := Fn.ex
  exact ej_callX h1 hr gu tk sb h2 h3 h4 ha hg hd he hpl
/-! ### what does not raise, within a mirror that may -/
variable {m' : Type → Type} [Mo m'] [Up m' m] {A : Type}
theorem ej_up {e : Expr} {x : m' D} (h : EJ X EX e g x) : EJ (m := m) X EX e g (Up.up x) := PE.weak h fun σ H Q ⟨B, G, n, φ, ξ, o, s, q, xw⟩ => ⟨B, G, n, φ, ξ, o, Up.sat_up s, q, xw⟩
theorem lj_up {e : Expr} {x : m' (List D)} (h : LJ X EX e g x) : LJ (m := m) X EX e g (Up.up x) := PE.weak h fun σ H Q ⟨B, G, n, φ, ξ, o, s, q, xw⟩ => ⟨B, G, n, φ, ξ, o, Up.sat_up s, q, xw⟩
theorem tj_up {e : Expr} {x : m' Bool} (h : TJ X EX e g x) : TJ (m := m) X EX e g (Up.up x) := PT.weak h fun σ H Q ⟨B, G, n, φ, ξ, o, s, q, xw⟩ => ⟨B, G, n, φ, ξ, o, Up.sat_up s, q, xw⟩
theorem lcp_up {e : Expr} {x : m' (List D)} (h : LcP X EX e g x) : LcP (m := m) X EX e g (Up.up x) := ⟨lj_up h.expr, fun nd hy hl hs => (h.stmt nd hy hl hs).weak fun De σ H ⟨B, G, n, φ, ξ, o, s, q, xw⟩ => ⟨B, G, n, φ, ξ, o, Up.sat_up s, q, xw⟩⟩
abbrev upX {α : Type} (o : Option α) : Xo α := Up.up (m' := Option) (m := Xo) o
/-- the suite for one class of errors -/
theorem suite1 {i : Nat} {gk : List Sl} {c f : Str} {e : Exn} {a C C' : Addr} {oe : Obj} {od : Option Addr} {X' : Cx} {ss : List Stmt} {h : D → m (Fl A)} {r : m (Fl A)} {P : A → List Sl} (hh : Held X e a oe od C) (hm : X.mg c = some (.ref C')) (h1 : ∀ d, Held X ⟨c, [(f, d)]⟩ a oe od C' → BJ X' X0 ss (gk.set i (.exn a od [(f, d)])) (h d) P) (h2 : BJ X' X0 ss (gk.set i (.exn a od e.fs)) r P) :
    BJ X' X0 ss (gk.set i (.exn a od e.fs)) (exc1 c f e h r) P := by
  refine bj_exc1 (fun d hc hf => ?_) h2
  obtain ⟨cl, fs⟩ := e
  dsimp only at hc hf
  subst hc hf
  have := hh.nm
  dsimp only at this
  rw [hm] at this
  cases this
  exact h1 d hh
/-- which class it is -/
theorem pick_cls {mg : Str → Option Value} {c d : Str} {C C' : Addr} {Q : Addr → Prop} (z : d = c) (h : mg c = some (.ref C')) (hC : mg d = some (.ref C)) (q : Q C') : Q C := by
  rw [z, h] at hC
  cases hC
  exact q
end
section
variable {P : Program} {w : World} {K : PySem.W.Frag} {mg : Str → Option Value} {base : Heap} {k : Nat} {x qual : Str} {st : Stmt} {f : Addr} {fd : FuncData} {N ps : List Str} {m : Type → Type} [Mo m]
theorem fnx_ar1 {F : D → m D} (Fu : Fun K x qual st f fd) (S : FnScope N ps (defScope st)) (hl : ps.length = 1)
    (hb : ∀ (a0 : D), ∀ (cdv : Value) (A : Around) (outer : List Env) (s : Shared) (H : Hp) (E : XK), Room k (A.deeper (envOfC qual (defScope st) s.heap.objs.size f cdv)) → A.guards = some [] →
      FJ (cxOf (L2N.CX P w) P w K mg base N qual (defScope st) f cdv A outer s H E) (xrOf N E) true (defBody st) ([Sl.val a0] ++ List.replicate (N.length - 1) .any) (F a0)) : FnX P w K mg base (k + 1) f fd ps (spX K mg (ar1 F)) := by
  refine fn_jx Fu S fun as n φ ξ s => ?_
  unfold ar1 at s
  split at s
  · exact ⟨hl.symm, hb _⟩
  · exact no_sat s
theorem fnx_ar3 {F : D → D → D → m D} (Fu : Fun K x qual st f fd) (S : FnScope N ps (defScope st)) (hl : ps.length = 3)
    (hb : ∀ (a0 a1 a2 : D), ∀ (cdv : Value) (A : Around) (outer : List Env) (s : Shared) (H : Hp) (E : XK), Room k (A.deeper (envOfC qual (defScope st) s.heap.objs.size f cdv)) → A.guards = some [] →
      FJ (cxOf (L2N.CX P w) P w K mg base N qual (defScope st) f cdv A outer s H E) (xrOf N E) true (defBody st) ([Sl.val a0, Sl.val a1, Sl.val a2] ++ List.replicate (N.length - 3) .any) (F a0 a1 a2)) : FnX P w K mg base (k + 1) f fd ps (spX K mg (ar3 F)) := by
  refine fn_jx Fu S fun as n φ ξ s => ?_
  unfold ar3 at s
  split at s
  · exact ⟨hl.symm, hb _ _ _⟩
  · exact no_sat s
end
end DD
namespace DD
open PySem PySem.Spec PyProof.Rows L2
def clsBody : Stmt → List Stmt
  | .ClassDef (body := b) .. => b
  | _ => []
def oexC0 (K : PySem.W.Frag) (C : Addr) : Bool := match K.lookup C with
  | some ⟨.type "type", _, .cls cd, sl⟩ => (match cd.mro, sl.toList with
    | .ref C' :: bm, [_, _, _, _, some (.builtin n), _] => C' == C && n == "ValueError.__new__" && cd.hasDict && !cd.hasDel && PySem.HandSPX.refsVE bm
    | _, _ => false)
  | _ => false
theorem oexC0_ok {K : PySem.W.Frag} {C : Addr} (h : oexC0 K C = true) : ∃ nm q N bs bm sn sub ab col dd k0 k1 k2 k3 k5, K.lookup C = some (excClassObj nm q C N bs bm true sn sub ab col dd k0 k1 k2 k3 k5 "ValueError.__new__") ∧ PySem.HandSPX.refsVE bm = true := by
  unfold oexC0 at h
  split at h
  · rename_i dd cd sl hl
    split at h
    · rename_i C' bm k0 k1 k2 k3 n k5 hm hs
      simp only [Bool.and_eq_true, beq_iff_eq, Bool.not_eq_true'] at h
      obtain ⟨⟨⟨⟨h1, h2⟩, h3⟩, h4⟩, h5⟩ := h
      subst h1 h2
      obtain ⟨nm, bs, mro, ns, qn, hd, sn, sb, ab, col, del⟩ := cd
      dsimp only at hm h3 h4
      subst hm h3 h4
      have hs' : sl = #[k0, k1, k2, k3, some (.builtin "ValueError.__new__"), k5] := by
        apply Array.toList_inj.mp
        rw [hs]
      subst hs'
      exact ⟨_, _, _, _, _, _, _, _, _, _, _, _, _, _, _, hl, h5⟩
    · cases h
  · cases h
theorem oex_mk {K : PySem.W.Frag} {C : Addr} (h : oexC0 K C = true) (h1 : PySem.W.findIn K (.ref C) "__setattr__" = some (some (.builtin "object.__setattr__"))) (h2 : PySem.W.subIn K (.ref C) (.type "BaseException") = some true) (h3 : PySem.W.typeIn K (.ref C) = some (.type "type")) (h4 : PySem.W.keepIn K (.ref C) = true) : OexC K C := ⟨oexC0_ok h, h1, h2, h3, h4⟩
theorem er1_mk {P : Program} {w : World} {K : PySem.W.Frag} {mg : Str → Option Value} {base : Heap} {c fl : Str} {C fI : Addr} {fd : FuncData} {ps : List Str} (nm : mg c = some (.ref C)) (T : OexC K C) (i1 : PySem.W.findIn K (.ref C) "__init__" = some (some (.ref fI))) (i2 : PySem.W.typeIn K (.ref fI) = some (.type "function")) (i3 : FnOk P w K mg base CX0 1 fI fd ps (spInit C fl)) (i4 : Binds K fd ps []) : Er1 P w K mg base c fl C := ⟨nm, T, fI, fd, ps, i1, i2, i3, i4⟩
end DD
namespace DD
open PySem PySem.Spec PyProof.Rows L2
/-! ### instances that do not change any more: attributes, methods, properties -/
def keyIs (f : Str) : D → Bool
  | .str x => f == x
  | _ => false
section
variable {K : PySem.W.Frag} {G : Hp}
theorem ClsOk.one {c : Str} {C C' : Addr} (h : ClsOk K c C) (h' : ClsOk K c C') : C' = C := by
  have e := h.nm
  rw [h'.nm] at e
  cases e
  rfl
end
section
variable {m : Type → Type} [Mo m] {X : Cx} {EX : XR} {g : List Sl} {k : Nat} {f C : Addr} {fd : FuncData} {ps : List Str} {pos apos : Pos}
/-! ### methods -/
def tM (C : Addr) (mn : Str) (ta : TE) (t : TA) (sp : Sp) (E : L2.St → XK) : TE := fun σ H Q => ta σ H fun x H1 => ∃ a dx fs, x = .ref a ∧ H1 a = some (.ins C dx fs) ∧ fs.lookup mn = none ∧ t σ H1 fun vs H2 => sp (x :: vs) H2 Q (E σ)
abbrev MethAt (X : Cx) (o : Expr) (mn : Str) (apos pos : Pos) (es : List Expr) (pl : Sem Bool) : Prop := eval (.Call (.Attribute o mn apos) es [] pos) X.env = (do
      let ov ← eval o X.env
      standAt apos.atName
      let (f, first) ← holding [ov] (getMethod ov mn pl)
      callWith pos f first (backTo pos (starEach es X.env)) (backToKw pos (keywordEach [] X.env)))
theorem pe_mG {pl : Sem Bool} {o e : Expr} {es : List Expr} {mn : Str} {ta : TE} {t : TA} {sp : Sp} (he : PE X o ta) (c : Cls X.K C) (hm : Meth X.K C mn f) (F : FnG X.prog X.w X.K X.mg X.base k f fd ps sp) (hr : Room k X.A) (gu : X.A.guards = some []) (hb : Binds X.K fd ps []) (ha : PA X (e :: es) t)
    (hst : starEach (e :: es) X.env = (false, eval e X.env) :: starEach es X.env) (hpl : (backTo pos (starEach es X.env)).any (·.1) = false) (ht : MethAt X o mn apos pos (e :: es) pl) : PE X (.Call (.Attribute o mn apos) (e :: es) [] pos) (tM C mn ta t sp fun _ => E0) := by
  refine ⟨fun pins s σ H Q I h => ?_⟩
  refine PySem.W.methodCall_KW (pl := pl) (thn (he.run pins s σ H _ I h) fun u s1 ⟨x, H1, I1, rx, a, dx, fs, ex, ea, l, q⟩ => ?_) ht
  subst ex
  obtain rfl : u = Value.ref a := rx
  refine getmeth_ok I1 ea c hm l ?_
  refine PySem.W.callWith_K (first := [.ref a]) (h₀ := X.base) I.ok.mod.kin hm.kp (thn (ha.run pos pins s1 σ H1 _ I1 q) fun us s2 ⟨vs, H2, I2, r, q2⟩ => ⟨I2.kIn, ?_⟩) hst hpl
  exact call_g (us := .ref a :: us) (vs := .ref a :: vs) F hr gu hb I2 (.cons rfl r) q2
/-! ### properties -/
end
end DD
namespace DD
open PySem PySem.Spec PyProof.Rows L2
/-! ### the body of an __init__: checks, then attributes of self -/
def Bs.at (B : Bs) (x : Addr) (u : HO) : Bs := ⟨upd B.H x u, B.G, B.dk, B.tG⟩
end DD
namespace DD
open PySem PySem.Spec PyProof.Rows L2
/-! ### classes of one's own: what is known of their defs -/
section
variable (P : Program) (w : World) (K : PySem.W.Frag) (mg : Str → Option Value) (base : Heap) (k : Nat) (c mn : Str) (ps : List Str)
structure MthG (sp : Sp) : Prop where
  ex : ∃ C f fd, ClsOk K c C ∧ Meth K C mn f ∧ FnG P w K mg base k f fd ps sp ∧ Binds K fd ps []
structure HasNo : Prop where
  ex : ∃ C, ClsOk K c C ∧ NoAttr K C mn
end
/-! __init__ with a given number of parameters beside self -/
end DD
namespace DD
open PySem PySem.Spec PyProof.Rows L2
/-! ### what may raise, where it does not -/
theorem sub_self : ∀ g : List Sl, Sub g g
  | [] => trivial
  | _ :: g => ⟨.inr rfl, sub_self g⟩
theorem takes00 {X : Cx} : L2N.Takes X (fun _ _ _ _ => False) := fun u s' ⟨a, B, sI, pins, σ, H, cls, d, e, I, nb, up, sky, na, os, ag, w⟩ => False.elim w
end DD
namespace DD
open PySem PySem.Spec PyProof.Rows L2
/-! ### the rules: a == b, a != b, str(a) -/
section
variable {m : Type → Type} [Mo m] {X : Cx} {EX : XR} {g : List Sl} {k : Nat} {ps : List Str} {pos p : Pos} {c : Str} {a b : Expr} {x y : m D} {F : List Sl → m D}
theorem tj_wO {t : TE} (W : ∀ σ H Q, teJ X EX g x σ H Q → t σ H Q) : ∀ σ H Q, ttJ X EX g (x >>= fun d => Mo.lift (boolD d)) σ H Q → tTest t σ H Q := fun σ H Q ⟨B, G, n, φ, ξ, o, s, q, xw⟩ => W σ H _ (te_one o s (fun v H1 G1 d n1 o1 g1 d1 s1 => by
    obtain ⟨b, eb, pb⟩ := Mo.sat_lift s1
    exact ⟨b, d1.bool eb, q b H1 G1 n1 o1 g1 pb⟩) xw)
end
end DD
/-! list comprehensions within an except suite -/
namespace DD
open PySem PySem.Spec PySem.Calls PyProof.Rows HotX L2
/-- an iterator whose end is met while an exception is handled -/
structure TurnY (P : Program) (w : World) (K : PySem.W.Frag) (tg : Expr) (J : It) (fp : List Addr) (it : Addr) (tn : Nat → Heap → Prop) : Prop where
  mem : it ∈ fp
  obj : ∀ i h, tn i h → ∀ b ∈ fp, ∃ o, h.get? b = some o ∧ ∀ v, o.data ≠ .cell v
  keep : ∀ i h h', tn i h → (∀ b ∈ fp, ∀ o, h.get? b = some o → h'.get? b = some o) → tn i h'
  item : ∀ (X : Cx), X.prog = P → X.w = w → X.K = K → ∀ (i : Nat) (pins : List (Addr × Obj)) (s : Shared) (σ : L2.St) (H : Hp) (E : Value → Shared → Prop), Inv X pins σ H s → (∀ b ∈ fp, FpOk X pins H b) → tn i s.heap → J.go i H →
    wpAny (model P w) X.A (pyNext (.ref it)) (fun r s1 => ∃ u, r = some u ∧
      wpAny (model P w) X.A (letOwnedTupleGo tg (.ref it) u) (fun _ s2 => ∃ x H', Inv X pins σ H' s2 ∧ RelV x u ∧ J.yld i H x H' ∧ tn (i + 1) s2.heap ∧ ∀ b ∈ fp, H' b = none) E s1) E s
  done : ∀ (X : Cx), X.prog = P → X.w = w → X.K = K → ∀ (y : Addr) (i : Nat) (pins : List (Addr × Obj)) (s : Shared) (σ : L2.St) (H : Hp) (E : Value → Shared → Prop), HotAt X.A y s.heap → y ∉ fp → Inv X pins σ H s → (∀ b ∈ fp, FpOk X pins H b) → tn i s.heap → J.stop i H →
    wpAny (model P w) X.A (pyNext (.ref it)) (fun r s1 => r = none ∧ Inv X pins σ H s1) E s
  self : ∀ (A : Around) (i : Nat) (s : Shared) (Q : Value → Shared → Prop) (E : Value → Shared → Prop), tn i s.heap → Q (.ref it) s → wpAny (model P w) A (pyIter (.ref it)) Q E s
def PIEY (X : Cx) (pins : List (Addr × Obj)) (σ : L2.St) (tg : Expr) (R : It → Hp → Prop) (itv : Value) (s2 : Shared) : Prop :=
  ∃ (it : Addr) (fp : List Addr) (tn : Nat → Heap → Prop) (J : It) (H' : Hp), itv = .ref it ∧ Inv X pins σ H' s2 ∧ TurnY X.prog X.w X.K tg J fp it tn ∧ tn 0 s2.heap ∧ (∀ b ∈ fp, FpOk X pins H' b) ∧ R J H'
structure PIY (X : Cx) (tg iter : Expr) (wi : TI) : Prop where
  run : ∀ (pins : List (Addr × Obj)) (s : Shared) (σ : L2.St) (H : Hp) (R : It → Hp → Prop), Inv X pins σ H s → wi σ H R →
    wpAny (model X.prog X.w) X.A (eval iter X.env) (fun v s1 => wpAny (model X.prog X.w) X.A (pyIter v) (PIEY X pins σ tg R) X.xe s1) X.xe s
theorem PIY.weak {X : Cx} {tg e : Expr} {t t' : TI} (h : PIY X tg e t) (w : ∀ σ H R, t' σ H R → t σ H R) : PIY X tg e t' := ⟨fun pins s σ H R I q => h.run pins s σ H R I (w _ _ _ q)⟩
end DD
namespace DD
open PySem PySem.Spec PyProof.Rows L2
/-! ### mirrors over worlds: wishes about a value and the world behind it -/
def Z (α : Type) : Type := Wd → (α → Wd → Prop) → Prop
instance : Mo Z where
  pure := fun a n φ => φ a n
  bind := fun x f n φ => x n (fun a n' => f a n' φ)
  sat := fun z n φ _ => z n φ
  lift := fun o n φ => ∃ a, o = some a ∧ φ a n
  sat_pure := fun h => h
  sat_bind := fun h => h
  sat_lift := fun ⟨a, e, h⟩ => ⟨a, e, h⟩
instance : Calm Z := ⟨fun h => h⟩
theorem zl_some {α : Type} (a : α) : (Mo.lift (some a) : Z α) = Pure.pure a := by
  funext n φ
  exact propext ⟨fun ⟨b, e, h⟩ => by cases e; exact h, fun h => ⟨a, rfl, h⟩⟩
instance : MoL Z := ⟨fun _ _ => rfl, fun _ _ _ => rfl, zl_some⟩
/-! ### the things that may change, hidden -/
def hid (G : Hp) : Hp := fun a => match G a with
  | some u => if isMk u = true then none else some u
  | none => none
theorem hid_some {G : Hp} {a : Addr} {u : HO} (h : hid G a = some u) : G a = some u ∧ isMk u = false := by
  unfold hid at h
  split at h
  · rename_i w e
    split at h
    · cases h
    · rename_i hm
      cases h
      exact ⟨e, by simpa using hm⟩
  · cases h
theorem hid_of {G : Hp} {a : Addr} {u : HO} (h : G a = some u) (m : isMk u = false) : hid G a = some u := by
  unfold hid
  rw [h]
  dsimp only
  rw [m, if_neg Bool.false_ne_true]
theorem hid_none {G : Hp} {a : Addr} (h : G a = none) : hid G a = none := by unfold hid; rw [h]
theorem hid_mk {G : Hp} {a : Addr} {u : HO} (h : G a = some u) (m : isMk u = true) : hid G a = none := by
  unfold hid
  rw [h]
  dsimp only
  rw [m, if_pos rfl]
theorem hid_sub {G H : Hp} (s : SubM G H) : SubM (hid G) H := ⟨fun a o e _ => s.h a o (hid_some e).1 (hid_some e).2, fun a e => hid_none (s.t a e)⟩
theorem same_hid {G G' : Hp} (s : Same G G') : Same (DD.hid G) (DD.hid G') := fun a o e => hid_of (s _ _ (hid_some e).1) (hid_some e).2
/-! data that may be hidden: nothing in it changes (instances that do not change are among it) -/
mutual
def okH : D → Bool
  | .none => true
  | .bool _ => true
  | .int _ => true
  | .str _ => true
  | .list ds => okHs ds
  | .tuple ds => okHs ds
  | .dict kvs => okHK kvs
def okHs : List D → Bool
  | [] => true
  | d :: ds => okH d && okHs ds
def okHK : List (D × D) → Bool
  | [] => true
  | (.none, _) :: _ => false
  | (.bool true, _) :: r => okHv r
  | (.bool false, _) :: _ => false
  | (.int _, _) :: _ => true
  | (.str _, _) :: _ => true
  | (.list _, _) :: _ => true
  | (.tuple _, _) :: _ => true
  | (.dict _, _) :: _ => true
def okHv : List (D × D) → Bool
  | [] => true
  | (_, v) :: r => okH v && okHv r
end
theorem okHv_map : ∀ fs : List (Str × D), okHv (fs.map fun p => (.str p.1, p.2)) = okHs (fs.map (·.2))
  | [] => by simp [okHv, okHs]
  | p :: r => by
    rw [List.map_cons, List.map_cons, okHv, okHs, okHv_map r]
theorem okH_ins (c : Str) (fs : List (Str × D)) : okH (insD c fs) = okHs (fs.map (·.2)) := by
  unfold insD
  rw [okH, okHK, okHv, okH, okHv_map]
  rfl
section
variable {K : PySem.W.Frag} {G : Hp}
theorem SqT.hid {a : Addr} {xs : List V} (h : SqT K G a xs) : SqT K (DD.hid G) a xs := by
  rcases h with (h | ⟨o, h⟩) | h
  · exact .inl (.inl (hid_of h rfl))
  · exact .inl (.inr ⟨o, hid_of h rfl⟩)
  · exact .inr h
mutual
theorem Da.hid : ∀ {d : D} {v : V}, Da K G v d → okH d = true → Da K (DD.hid G) v d
  | _, _, .non, _ => .non
  | _, _, .bl b, _ => .bl b
  | _, _, .int i, _ => .int i
  | _, _, .str x, _ => .str x
  | _, _, .lst h a, ok => .lst (hid_of h rfl) (DaAll.hid a (by rw [okH] at ok; exact ok))
  | _, _, .tup h a, ok => .tup (SqT.hid h) (DaAll.hid a (by rw [okH] at ok; exact ok))
  | _, _, .dct h a, _ => .dct (hid_of h rfl) a
  | _, _, .obj h, ok => by simp [okH, okHK] at ok
  | _, _, .cel h, ok => by simp [okH, okHK] at ok
  | _, _, .fin (c := c) (fs := fs) h k l a, ok => .fin (hid_of h rfl) k l (DaAll.hid a (by rw [← okH_ins c fs]; exact ok))
theorem DaAll.hid : ∀ {ds : List D} {vs : List V}, DaAll K G vs ds → okHs ds = true → DaAll K (DD.hid G) vs ds
  | _, _, .nil, _ => .nil
  | _, _, .cons a b, ok => by
    simp only [okHs, Bool.and_eq_true] at ok
    exact .cons (Da.hid a ok.1) (DaAll.hid b ok.2)
end
end
/-- slots without things that may change -/
def okSl : List Sl → Bool
  | [] => true
  | .val d :: r => okH d && okSl r
  | .own ds :: r => okHs ds && okSl r
  | .deck :: r => okSl r
  | .any :: r => okSl r
  | .exn _ _ fs :: r => okHs (fs.map (·.2)) && okSl r
  | .fn _ _ :: _ => false
theorem okSl_fn : ∀ {g : List Sl} {i : Nat} {f : Addr} {F : Hp → Prop}, okSl g = true → g[i]? = some (.fn f F) → False
  | [], _, _, _, _, e => by cases e
  | .fn _ _ :: r, _, _, _, h, _ => by cases h
  | .val d :: r, i, _, _, h, e => by
    cases i with
    | zero => cases e
    | succ i => simp only [okSl, Bool.and_eq_true] at h; exact okSl_fn (g := r) h.2 e
  | .own d :: r, i, _, _, h, e => by
    cases i with
    | zero => cases e
    | succ i => simp only [okSl, Bool.and_eq_true] at h; exact okSl_fn (g := r) h.2 e
  | .exn a b c :: r, i, _, _, h, e => by
    cases i with
    | zero => cases e
    | succ i => simp only [okSl, Bool.and_eq_true] at h; exact okSl_fn (g := r) h.2 e
  | .any :: r, i, _, _, h, e => by
    cases i with
    | zero => cases e
    | succ i => exact okSl_fn (g := r) h e
  | .deck :: r, i, _, _, h, e => by
    cases i with
    | zero => cases e
    | succ i => simp only [okSl] at h; exact okSl_fn (g := r) h e
theorem okSl_get : ∀ {g : List Sl} {i : Nat} {s : Sl}, okSl g = true → g[i]? = some s → (∀ d, s = .val d → okH d = true) ∧ (∀ ds, s = .own ds → okHs ds = true) ∧ ∀ a od fs, s = .exn a od fs → okHs (fs.map (·.2)) = true
  | [], i, s, _, e => by simp at e
  | x :: g, 0, s, h, e => by
    simp at e
    subst e
    cases x with
    | val d => simp only [okSl, Bool.and_eq_true] at h; exact ⟨fun d' z => by cases z; exact h.1, fun ds z => (by cases z), fun _ _ _ z => by cases z⟩
    | own ds => simp only [okSl, Bool.and_eq_true] at h; exact ⟨fun d' z => (by cases z), fun ds z => by cases z; exact h.1, fun _ _ _ z => by cases z⟩
    | deck => exact ⟨fun d' z => (by cases z), fun ds z => (by cases z), fun _ _ _ z => by cases z⟩
    | any => exact ⟨fun d' z => (by cases z), fun ds z => (by cases z), fun _ _ _ z => by cases z⟩
    | exn a b c => simp only [okSl, Bool.and_eq_true] at h; exact ⟨fun d' z => (by cases z), fun ds z => (by cases z), fun _ _ _ z => by cases z; exact h.1⟩
    | fn _ _ => cases h
  | x :: g, i + 1, s, h, e => by
    have h' : okSl g = true := by
      cases x with
      | val d => simp only [okSl, Bool.and_eq_true] at h; exact h.2
      | own ds => simp only [okSl, Bool.and_eq_true] at h; exact h.2
      | deck => exact h
      | any => exact h
      | exn a b c => simp only [okSl, Bool.and_eq_true] at h; exact h.2
      | fn _ _ => cases h
    exact okSl_get h' (by simpa using e)
def hideZ {α : Type} (g : List Sl) (x : Option α) : Z α := fun n φ => okSl g = true ∧ ∃ a, x = some a ∧ φ a n
section
variable {K : PySem.W.Frag} {B : Bs} {g g' : List Sl} {σ : L2.St} {H G : Hp} {n : Wd}
theorem nomk {n : Nat} (o : Obs K H G ⟨n, []⟩) {a : Addr} {u : HO} (e : G a = some u) : isMk u = false := by
  cases hm : mkOf u with
  | none => unfold isMk; rw [hm]; rfl
  | some k =>
    obtain ⟨c, e2, _⟩ := o.at_ a u k e hm
    cases e2
theorem obs_no {n : Nat} (h : ∀ a u, G a = some u → isMk u = false) : Obs K H G ⟨n, []⟩ :=
  ⟨(fun a u k e hm => by have := h a u e; unfold isMk at this; rw [hm] at this; cases this), (fun a b u w k e _ hm => by have := h a u e; unfold isMk at this; rw [hm] at this; cases this), fun k c e => by cases e⟩
theorem hid_nomk {a : Addr} {u : HO} (e : hid G a = some u) : isMk u = false := (hid_some e).2
theorem Fm.alive (f : Fm K B H G n) {a : Addr} (h : B.H a ≠ none) : H a ≠ none := by
  by_cases hp : B.fp a
  · exact f.fpThere hp
  · cases hb : B.H a with
    | none => exact absurd hb h
    | some z => rw [f.keep a z hb hp]; simp
/-- the base of a hidden run: what stood at the def's entry, as it is now -/
noncomputable def Bs.now (B : Bs) (H G : Hp) : Bs := ⟨fun a => open Classical in if B.H a = none then none else H a, hid B.G, B.dk, hid B.tG⟩
theorem now_none {a : Addr} (h : B.H a = none) : (B.now H G).H a = none := by show (open Classical in if B.H a = none then none else H a) = none; rw [if_pos h]
theorem now_some {a : Addr} (h : B.H a ≠ none) : (B.now H G).H a = H a := by show (open Classical in if B.H a = none then none else H a) = H a; rw [if_neg h]
theorem now_in {a : Addr} (h : (B.now H G).H a ≠ none) : B.H a ≠ none := fun e => h (now_none e)
theorem Ok.hide (o : Ok K B g σ H G n) (sb : Sub g g') (hs : okSl g' = true) : Ok K (B.now H G) g' σ H (hid G) ⟨n.n, []⟩ := by
  have o' := o.forget sb
  refine ⟨⟨fun a u e _ => ?_, hid_sub o.fm.sub, same_hid o.fm.old, obs_no fun a u e => hid_nomk e, fun a e => ?_, same_hid o.fm.tg, fun a e q => ?_, fun a b e => ?_⟩, o'.len, fun i d e => ?_, ?_, o'.dck, fun i a od fs e => ?_, fun i f F e => ?_⟩
  · by_cases h : B.H a = none
    · rw [now_none h] at e; cases e
    · rw [now_some h] at e; exact e
  · by_cases h : B.H a = none
    · exact hid_none (o.fm.bt a h)
    · rw [now_some h] at e
      exact absurd e (o.fm.alive h)
  · have h := now_in e
    cases eb : B.G a with
    | none => exact hid_none (o.fm.new a h eb)
    | some u =>
      cases m : isMk u with
      | false =>
        have : hid B.G a = none := q
        rw [hid_of eb m] at this
        cases this
      | true => exact hid_mk (o.fm.old _ _ eb) m
  · obtain ⟨d1, h1, h2, h3, h4⟩ := o.fm.deck a b e
    exact ⟨d1, by rw [now_some h1]; exact o.fm.alive h1, by rw [now_some h2]; exact o.fm.alive h2, hid_none h3, hid_none h4⟩
  · obtain ⟨v, h1, h2⟩ := o'.val i d e
    exact ⟨v, h1, h2.hid ((okSl_get hs e).1 d rfl)⟩
  · obtain ⟨f, h1, h2⟩ := o'.own
    refine ⟨f, h1, fun i ds e => ?_⟩
    obtain ⟨q1, q2, q3, xs, q4, q5⟩ := h2 i ds e
    exact ⟨q1, hid_none q2, now_none q3, xs, q4, q5.hid ((okSl_get hs e).2.1 ds rfl)⟩
  · obtain ⟨h1, h2⟩ := o'.adr i a od fs e
    refine ⟨h1, ?_⟩
    rcases h2 with ⟨k1, k2⟩ | ⟨dx, vs, k1, k2, k3, k4⟩
    · exact .inl ⟨k1, k2⟩
    · exact .inr ⟨dx, vs, k1, hid_of k2 rfl, k3, DaAll.hid k4 ((okSl_get hs e).2.2 a od fs rfl)⟩
  · exact (okSl_fn hs e).elim
/-- the data that came, beside the marks -/
def mrk (G Gc : Hp) : Hp := fun a => match G a with
  | some u => some u
  | none => Gc a
theorem mrk_l {G Gc : Hp} {a : Addr} {u : HO} (h : G a = some u) : mrk G Gc a = some u := by unfold mrk; rw [h]
theorem mrk_r {G Gc : Hp} {a : Addr} (h : G a = none) : mrk G Gc a = Gc a := by unfold mrk; rw [h]
theorem Ok.unhide (o : Ok K B g σ H G n) {G1 H' G' Gc : Hp} {n' : Wd} (f : Fm K ⟨H, G1, B.dk, G1⟩ H' G' n') (g1 : ∀ a u, G1 a = some u → isMk u = false) (c1 : Same (hid G) Gc) (c2 : ∀ a, hid G a = none → H a ≠ none → Gc a = none) (c3 : SubM Gc H') (c4 : ∀ a u, Gc a = some u → isMk u = false) :
    Ok K B g σ H' (mrk G Gc) ⟨n'.n, n.ob⟩ ∧ Same G (mrk G Gc) ∧ Same Gc (mrk G Gc) := by
  have sG : Same G (mrk G Gc) := fun a u e => mrk_l e
  have sC : Same Gc (mrk G Gc) := fun a u e => by
    cases eg : G a with
    | none => rw [mrk_r eg]; exact e
    | some w =>
      rw [mrk_l eg]
      cases m : isMk w with
      | false => have := c1 a w (hid_of eg m); rw [this] at e; exact e
      | true =>
        have hH : H a ≠ none := o.fm.there eg
        rw [c2 a (hid_mk eg m) hH] at e
        cases e
  have fp : ∀ a, (⟨H, G1, B.dk, G1⟩ : Bs).fp a → ∃ x y, B.dk = some (x, y) ∧ (a = x ∨ a = y) := fun a h => by
    rcases h with h | ⟨u, e, m⟩
    · exact h
    · have := g1 a u e
      rw [m] at this; cases this
  have kp : ∀ a u, B.H a = none ∨ (∃ w, G a = some w) → H a = some u → H' a = some u := fun a u hb e => f.keep a u e fun h => by
    obtain ⟨x, y, ed, hxy⟩ := fp a h
    obtain ⟨_, h1, h2, h3, h4⟩ := o.fm.deck x y ed
    rcases hb with hb | ⟨w, hb⟩
    · rcases hxy with rfl | rfl
      · exact h1 hb
      · exact h2 hb
    · rcases hxy with rfl | rfl
      · rw [o.fm.new a h1 h3] at hb; cases hb
      · rw [o.fm.new a h2 h4] at hb; cases hb
  have alive : ∀ a, H a ≠ none → H' a ≠ none := fun a h => f.alive h
  refine ⟨⟨⟨fun a u e q => ?_, ⟨fun a u e m => ?_, fun a e => ?_⟩, o.fm.old.trans sG, ⟨fun a u k e m => ?_, fun a b u w k e e2 m m2 => ?_, fun k c e => ?_⟩, o.fm.bt, o.fm.tg.trans sG, fun a e q => ?_, fun a b e => ?_⟩, o.len, fun i d e => ?_, ?_, o.dck, fun i a od fs e => ⟨(o.adr i a od fs e).1, (o.adr i a od fs e).2.mono sG⟩, fun i f F e => ⟨(o.fnc i f F e).1, (o.fnc i f F e).2.2 _ _ sG (o.fnc i f F e).2.1, (o.fnc i f F e).2.2⟩⟩, sG, sC⟩
  · refine f.keep a u (o.fm.keep a u e q) fun h => q ?_
    obtain ⟨x, y, ed, hxy⟩ := fp a h
    exact .inl ⟨x, y, ed, hxy⟩
  · cases eg : G a with
    | none => rw [mrk_r eg] at e; exact c3.h a u e m
    | some w =>
      rw [mrk_l eg] at e
      cases e
      exact c3.h a u (c1 a u (hid_of eg m)) m
  · cases eg : G a with
    | none => rw [mrk_r eg]; exact c3.t a e
    | some w => exact absurd e (alive a (o.fm.there eg))
  · cases eg : G a with
    | none =>
      rw [mrk_r eg] at e
      have := c4 a u e
      unfold isMk at this
      rw [m] at this; cases this
    | some w =>
      rw [mrk_l eg] at e
      cases e
      obtain ⟨c, h1, h2⟩ := o.fm.obs.at_ a u k eg m
      exact ⟨c, h1, h2.mono sG fun x hx => kp a x (.inr ⟨u, eg⟩) hx⟩
  · have lft : ∀ z v j, mrk G Gc z = some v → mkOf v = some j → G z = some v := fun z v j ez mz => by
      cases eg : G z with
      | none =>
        rw [mrk_r eg] at ez
        have := c4 z v ez
        unfold isMk at this
        rw [mz] at this; cases this
      | some w => rw [mrk_l eg] at ez; exact ez
    exact o.fm.obs.inj a b u w k (lft _ _ _ e m) (lft _ _ _ e2 m2) m m2
  · obtain ⟨a, h⟩ := o.fm.obs.all k c e
    obtain ⟨u, hu, _⟩ := h.mark
    exact ⟨a, h.mono sG fun x hx => kp a x (.inr ⟨u, hu⟩) hx⟩
  · have ga := o.fm.new a e q
    rw [mrk_r ga]
    exact c2 a (hid_none ga) (o.fm.alive e)
  · obtain ⟨_, h1, h2, h3, h4⟩ := o.fm.deck a b e
    exact ⟨(f.deck a b e).1, h1, h2, h3, h4⟩
  · obtain ⟨v, h1, h2⟩ := o.val i d e
    exact ⟨v, h1, h2.mono sG⟩
  · obtain ⟨fn, h1, h2⟩ := o.own
    refine ⟨fn, h1, fun i ds e => ?_⟩
    obtain ⟨q1, q2, q3, xs, q4, q5⟩ := h2 i ds e
    exact ⟨q1, by rw [mrk_r q2]; exact c2 _ (hid_none q2) (by rw [q4]; simp), q3, xs, kp _ _ (.inl q3) q4, q5.mono sG⟩
end
end DD
namespace DD
open PySem PySem.Spec PyProof.Rows L2
/-! ### what sees no thing that may change, within a mirror over worlds -/
def noOwns (g : List Sl) : Bool := g.all fun s => match s with
  | .own _ => false
  | _ => true
section
variable {K : PySem.W.Frag} {B : Bs} {g g' : List Sl} {σ : L2.St} {H G : Hp} {n : Wd}
/-- without lists of one's own the base is the present heap -/
theorem Ok.hide0 (o : Ok K B g σ H G n) (sb : Sub g g') (hs : okSl g' = true) (ho : noOwns g' = true) : Ok K ⟨H, hid G, B.dk, hid G⟩ g' σ H (hid G) ⟨n.n, []⟩ := by
  have oh := o.hide sb hs
  refine ⟨⟨fun a u e _ => e, oh.fm.sub, Same.refl _, oh.fm.obs, oh.fm.sub.t, Same.refl _, fun a _ q => q, fun a b e => ?_⟩, oh.len, oh.val, ⟨fun _ => 0, fun i j ds es e => ?_, fun i ds e => ?_⟩, oh.dck, oh.adr, oh.fnc⟩
  · obtain ⟨d1, h1, h2, h3, h4⟩ := oh.fm.deck a b e
    exact ⟨d1, oh.fm.alive h1, oh.fm.alive h2, oh.fm.new a h1 h3, oh.fm.new b h2 h4⟩
  · have := List.all_eq_true.mp ho _ (List.mem_of_getElem? e)
    cases this
  · have := List.all_eq_true.mp ho _ (List.mem_of_getElem? e)
    cases this
end
/-! .. lists of one's own lent -/
end DD
namespace DD
open PySem PySem.Spec PyProof.Rows L2
/-! ### lists that may change: cells of the world -/
def celOf : D → Option Nat
  | .dict [(.bool false, .int i)] => if bigI ≤ i then some (i - bigI).toNat else none
  | _ => none
theorem cel_ref (k : Nat) : celOf (refL k) = some k := by
  show (if bigI ≤ bigI + (k : Int) then some (bigI + (k : Int) - bigI).toNat else none) = _
  rw [if_pos (by omega)]
  congr 1
  omega
def cellZ (k : Nat) : Z (List D) := fun n φ => ∃ ds, n.ob[k]? = some (.lst ds) ∧ φ ds n
def putZ (k : Nat) (ds : List D) : Z Unit := fun n φ => φ () ⟨n.n, n.ob.set k (.lst ds)⟩
def newZ (ds : List D) : Z D := fun n φ => φ (refL n.ob.length) ⟨n.n, n.ob ++ [.lst ds]⟩
section
variable {K : PySem.W.Frag} {B : Bs} {g : List Sl} {σ : L2.St} {H G : Hp} {n : Wd}
theorem Da.cell {v : V} {d : D} {k : Nat} (h : Da K G v d) (e : celOf d = some k) : ∃ a, v = .ref a ∧ G a = some (.met k k) := by
  cases h with
  | cel h =>
    rename_i a j
    have : celOf (refL j) = some k := e
    rw [cel_ref] at this
    cases this
    exact ⟨_, rfl, h⟩
  | @dct a kvs h _ =>
    unfold celOf at e
    split at e
    · rename_i z
      cases kvs with
      | nil => cases z
      | cons p r =>
        rw [List.map_cons] at z
        injection z with z
        injection z with z z2
        obtain ⟨key, w⟩ := p
        have z3 := congrArg Prod.fst z
        cases key <;> cases z3
    · cases e
  | obj h =>
    cases e
  | _ => cases e
theorem Obs.cell {a : Addr} {k : Nat} (o : Obs K H G n) (e : G a = some (.met k k)) : ∃ ds xs, n.ob[k]? = some (.lst ds) ∧ H a = some (.lst xs) ∧ DaAll K G xs ds := by
  obtain ⟨c, h1, h2⟩ := o.at_ a _ k e rfl
  cases c with
  | ins cl fs =>
    obtain ⟨q, _⟩ := h2
    rw [e] at q
    cases q
  | lst ds =>
    obtain ⟨_, xs, h3, h4⟩ := h2
    exact ⟨ds, xs, h1, h3, h4⟩
  | dic kvs =>
    obtain ⟨q, _⟩ := h2
    rw [e] at q
    cases q
  | tab P y =>
    have z := h2.1
    rw [e] at z
    have w := Option.some.inj z
    injection w with w1 w2
    exact absurd w2 (Nat.ne_of_lt (Nat.lt_succ_self _))
theorem Ok.cellAt (o : Ok K B g σ H G n) {v : V} {d : D} {k : Nat} (h : Da K G v d) (e : celOf d = some k) : ∃ a ds xs, v = .ref a ∧ G a = some (.met k k) ∧ n.ob[k]? = some (.lst ds) ∧ H a = some (.lst xs) ∧ DaAll K G xs ds := by
  obtain ⟨a, rfl, ha⟩ := h.cell e
  obtain ⟨ds, xs, h1, h2, h3⟩ := o.fm.obs.cell ha
  exact ⟨a, ds, xs, rfl, ha, h1, h2, h3⟩
/-- a cell is given new items -/
theorem Ok.putC (o : Ok K B g σ H G n) {a : Addr} {k : Nat} {xs : List V} {ds : List D} (ha : G a = some (.met k k)) (hd : DaAll K G xs ds) : Ok K B g σ (upd H a (.lst xs)) G ⟨n.n, n.ob.set k (.lst ds)⟩ := by
  obtain ⟨ds0, xs0, hk, hH, _⟩ := o.fm.obs.cell ha
  have klt : k < n.ob.length := (List.getElem?_eq_some_iff.mp hk).1
  have ne : ∀ b, G b = none → b ≠ a := fun b h e => by rw [e, ha] at h; cases h
  refine ⟨⟨fun b u e q => ?_, ⟨fun b u e m => ?_, fun b e => ?_⟩, o.fm.old, ⟨fun b u j e m => ?_, o.fm.obs.inj, fun j c e => ?_⟩, o.fm.bt, o.fm.tg, o.fm.new, fun x y e => ?_⟩, o.len, o.val, ?_, o.dck, o.adr, o.fnc⟩
  · have : b ≠ a := by
      rintro rfl
      cases eb : B.G b with
      | none => rw [o.fm.new b (by rw [e]; simp) eb] at ha; cases ha
      | some w =>
        have := o.fm.old b w eb
        rw [ha] at this
        cases this
        exact q (.inr ⟨_, eb, rfl⟩)
    rw [upd_ne this]
    exact o.fm.keep b u e q
  · have : b ≠ a := by
      rintro rfl
      rw [ha] at e
      cases e
      cases m
    rw [upd_ne this]
    exact o.fm.sub.h b u e m
  · by_cases hb : b = a
    · rw [hb, upd_same] at e; cases e
    · rw [upd_ne hb] at e; exact o.fm.sub.t b e
  · by_cases hb : b = a
    · subst hb
      rw [ha] at e
      cases e
      have hj : k = j := by simpa [mkOf] using m
      subst hj
      refine ⟨.lst ds, ?_, ha, xs, upd_same, hd⟩
      show (n.ob.set k (.lst ds))[k]? = _
      rw [List.getElem?_set_self klt]
    · have hj : k ≠ j := fun z => hb (o.fm.obs.inj b a u _ k e ha (z ▸ m) rfl)
      obtain ⟨c, h1, h2⟩ := o.fm.obs.at_ b u j e m
      refine ⟨c, ?_, h2.mono (Same.refl _) ?_⟩
      · show (n.ob.set k (.lst ds))[j]? = _
        rw [List.getElem?_set_ne hj]; exact h1
      · intro x hx
        rw [upd_ne hb]; exact hx
  · by_cases hj : k = j
    · subst hj
      have e' : (n.ob.set k (.lst ds))[k]? = some c := e
      rw [List.getElem?_set_self klt] at e'
      cases e'
      exact ⟨a, ha, xs, upd_same, hd⟩
    · have e' : (n.ob.set k (.lst ds))[j]? = some c := e
      rw [List.getElem?_set_ne hj] at e'
      obtain ⟨b, hb⟩ := o.fm.obs.all j c e'
      obtain ⟨u, hu, hm⟩ := hb.mark
      have hba : b ≠ a := by
        rintro rfl
        rw [ha] at hu
        cases hu
        exact hj (by simpa [mkOf] using hm)
      refine ⟨b, hb.mono (Same.refl _) ?_⟩
      intro x hx
      rw [upd_ne hba]; exact hx
  · obtain ⟨⟨cs, c, e1, e2, r⟩, h1, h2, h3, h4⟩ := o.fm.deck x y e
    exact ⟨⟨cs, c, by rw [upd_ne (ne x (o.fm.new x h1 h3))]; exact e1, by rw [upd_ne (ne y (o.fm.new y h2 h4))]; exact e2, r⟩, h1, h2, h3, h4⟩
  · obtain ⟨f, h1, h2⟩ := o.own
    refine ⟨f, h1, fun i es e => ?_⟩
    obtain ⟨q1, q2, q3, ys, q4, q5⟩ := h2 i es e
    exact ⟨q1, q2, q3, ys, by rw [upd_ne (ne _ q2)]; exact q4, q5⟩
/-- a new list becomes a cell -/
theorem Ok.cellN (o : Ok K B g σ H G n) {p : Addr} {xs : List V} {ds : List D} (hb : B.H p = none) (hg : G p = none) (hh : H p = some (.lst xs)) (hf : ∀ (i : Nat) (es : List D) (f : Addr), g[i]? = some (Sl.own es) → σ[i]? = some (some (V.ref f)) → f ≠ p) (da : DaAll K G xs ds) :
    Ok K B g σ H (upd G p (.met n.ob.length n.ob.length)) ⟨n.n, n.ob ++ [.lst ds]⟩ ∧ Same G (upd G p (.met n.ob.length n.ob.length)) := by
  have sg : Same G (upd G p (.met n.ob.length n.ob.length)) := same_upd hg
  have old : ∀ b u, b ≠ p → upd G p (.met n.ob.length n.ob.length) b = some u → G b = some u := fun b u h e => by rw [upd_ne h] at e; exact e
  have low : ∀ b u j, b ≠ p → upd G p (.met n.ob.length n.ob.length) b = some u → mkOf u = some j → j < n.ob.length := fun b u j h e m => by
    obtain ⟨c, h1, _⟩ := o.fm.obs.at_ b u j (old b u h e) m
    exact (List.getElem?_eq_some_iff.mp h1).1
  refine ⟨⟨⟨o.fm.keep, ⟨fun a z e m => ?_, fun a e => ?_⟩, o.fm.old.trans sg, ⟨fun b u j e m => ?_, fun b c u w j e1 e2 m1 m2 => ?_, fun j c e => ?_⟩, o.fm.bt, o.fm.tg.trans sg, fun a e q => ?_, o.fm.deck⟩, o.len, fun i d e => ?_, ?_, o.dck, fun i a od fs e => ⟨(o.adr i a od fs e).1, (o.adr i a od fs e).2.mono sg⟩, fun i f F e => ⟨(o.fnc i f F e).1, (o.fnc i f F e).2.2 _ _ sg (o.fnc i f F e).2.1, (o.fnc i f F e).2.2⟩⟩, sg⟩
  · by_cases ha : a = p
    · rw [ha, upd_same] at e; cases e; cases m
    · exact o.fm.sub.h a z (old a z ha e) m
  · have : a ≠ p := by rintro rfl; rw [hh] at e; cases e
    rw [upd_ne this]; exact o.fm.sub.t a e
  · by_cases hbp : b = p
    · subst hbp
      rw [upd_same] at e
      cases e
      have hj : n.ob.length = j := by simpa [mkOf] using m
      subst hj
      exact ⟨.lst ds, by simp, upd_same, xs, hh, da.mono sg⟩
    · obtain ⟨c, h1, h2⟩ := o.fm.obs.at_ b u j (old b u hbp e) m
      have hl := (List.getElem?_eq_some_iff.mp h1).1
      exact ⟨c, by show (n.ob ++ [Cell.lst ds])[j]? = _; rw [List.getElem?_append_left hl]; exact h1, h2.mono sg fun _ z => z⟩
  · by_cases hbp : b = p <;> by_cases hcp : c = p
    · rw [hbp, hcp]
    · subst hbp
      rw [upd_same] at e1
      cases e1
      have hj : n.ob.length = j := by simpa [mkOf] using m1
      have := low c w j hcp e2 m2
      omega
    · subst hcp
      rw [upd_same] at e2
      cases e2
      have hj : n.ob.length = j := by simpa [mkOf] using m2
      have := low b u j hbp e1 m1
      omega
    · exact o.fm.obs.inj b c u w j (old b u hbp e1) (old c w hcp e2) m1 m2
  · have e' : (n.ob ++ [Cell.lst ds])[j]? = some c := e
    by_cases hl : j < n.ob.length
    · rw [List.getElem?_append_left hl] at e'
      obtain ⟨b, h⟩ := o.fm.obs.all j c e'
      exact ⟨b, h.mono sg fun _ z => z⟩
    · have hl' : n.ob.length ≤ j := Nat.le_of_not_lt hl
      rw [List.getElem?_append_right hl'] at e'
      have hj : j = n.ob.length := by
        have h3 : j - n.ob.length < 1 := (List.getElem?_eq_some_iff.mp e').1
        exact Nat.le_antisymm (Nat.le_of_sub_eq_zero (Nat.lt_one_iff.mp h3)) hl'
      subst hj
      rw [Nat.sub_self] at e'
      cases e'
      exact ⟨p, upd_same, xs, hh, da.mono sg⟩
  · have : a ≠ p := by rintro rfl; exact e hb
    rw [upd_ne this]; exact o.fm.new a e q
  · obtain ⟨v, h1, h2⟩ := o.val i d e
    exact ⟨v, h1, h2.mono sg⟩
  · obtain ⟨f, h1, h2⟩ := o.own
    refine ⟨f, h1, fun i es e => ?_⟩
    obtain ⟨a, b, c, ys, d, da'⟩ := h2 i es e
    exact ⟨a, by rw [upd_ne (hf i es _ e a)]; exact b, c, ys, d, da'.mono sg⟩
end
end DD
namespace DD
open PySem PySem.Spec PyProof.Rows L2
/-! ### rules for lists that may change -/
def ixZ (d j : D) : Z D := match celOf d with
  | some k => cellZ k >>= fun ds => Mo.lift (getD (.list ds) j)
  | none => Mo.lift (getD d j)
def lenZ (d : D) : Z D := match celOf d with
  | some k => cellZ k >>= fun ds => pure (.int ds.length)
  | none => Mo.lift (lenD d)
def tupleZ (d : D) : Z D := match celOf d with
  | some k => cellZ k >>= fun ds => pure (.tuple ds)
  | none => Mo.lift (tupleD d)
def onlyZ (d : D) : Z Nat := Mo.lift (celOf d)
def setZ (d j v : D) : Z Unit := onlyZ d >>= fun k => cellZ k >>= fun ds => Mo.lift (putD ds j v) >>= fun es => putZ k es
def tripZ (d : D) : Z (D × D × D) := match celOf d with
  | some k => cellZ k >>= fun ds => Mo.lift (tripD (.tuple ds))
  | none => Mo.lift (tripD d)
section
variable {X : Cx} {EX : XR} {g : List Sl}
/-- a new list as a thing that may change -/
theorem ej_cel {e : Expr} {x : Z (List D)} (h : LJ X EX e g x) : EJ X EX e g (x >>= newZ) :=
  PE.weak h fun σ H Q ⟨B, G, n, φ, ξ, o, s, q, xw⟩ => ⟨B, G, n, _, ξ, o, Mo.sat_bind s, fun p xs H1 G1 ds n1 o1 g1 hb hg hh hf a1 s1 => by
    obtain ⟨o2, g2⟩ := o1.cellN hb hg hh hf a1
    exact q _ H1 _ _ _ o2 (g1.trans g2) (.cel upd_same) s1, xw⟩
theorem ej_ixZ {a b : Expr} {pos : Pos} {x y : Z D} (ha : EJ X EX a g x) (hb : EJ X EX b g y) (hs : PlainIx b) : EJ X EX (.Subscript a b pos) g (x >>= fun d => y >>= fun j => ixZ d j) :=
  (pe_ix ix_seq ha hb hs).weak fun σ H Q ⟨B, G, n, φ, ξ, o, s, q, xw⟩ => te_one o s (fun v H1 G1 d n1 o1 g1 d1 s1 => te_one o1 s1 (fun w H2 G2 j n2 o2 g2 d2 s2 => by
    have s2 : ixZ d j n2 φ := s2
    unfold ixZ at s2
    rcases ek : celOf d with _ | k
    rotate_left
    · rw [ek] at s2
      obtain ⟨a, ds, xs, ev, ga, hk, hH, da⟩ := o2.cellAt (d1.mono g2) ek
      obtain ⟨ds', e1, z, ez, pz⟩ := s2
      rw [hk] at e1
      cases e1
      unfold getD at ez
      split at ez
      · rename_i e2
        cases e2
        obtain ⟨v', h1, h2⟩ := da.atI ez
        exact .inl ⟨a, xs, _, v', ev, d2.toI, .of hH, h1, q v' H2 G2 z n2 o2 (g1.trans g2) h2 pz⟩
      · rename_i e2; cases e2
      · rename_i e2; cases e2
      · cases ez
    · rw [ek] at s2
      obtain ⟨z, ez, pz⟩ := s2
      exact rd_ix v w d j z H2 G2 Q (d1.mono g2) d2 o2.fm.sub ez fun u H3 G3 gr du => q u H3 G3 z n2 (o2.gr gr) ((g1.trans g2).trans gr.g) du pz) xw) xw
theorem ej_lenZ {p pos : Pos} {a : Expr} {x : Z D} (hm : X.mg "len" = none) (ha : EJ X EX a g x) (hg : Gl X "len" := by rfl) (hs : starEach [a] X.env = (false, eval a X.env) :: starEach [] X.env := by rfl) :
    EJ X EX (.Call (.Name "len" p) [a] [] pos) g (x >>= fun d => lenZ d) :=
  (pe_callB call_lenD' hg hm (by decide +kernel) (pa_cons ha pa_nil hs) (by decide) (by decide) hs rfl).weak fun σ H Q ⟨B, G, n, φ, ξ, o, s, q, xw⟩ => te_one o s (fun v H1 G1 d n1 o1 g1 d1 s1 => by
    have s1 : lenZ d n1 φ := s1
    unfold lenZ at s1
    rcases ek : celOf d with _ | k
    rotate_left
    · rw [ek] at s1
      obtain ⟨a, ds, xs, ev, ga, hk, hH, da⟩ := o1.cellAt d1 ek
      obtain ⟨ds', e1, pz⟩ := s1
      rw [hk] at e1
      cases e1
      refine .inl ⟨a, xs, by rw [ev], .inl (.of hH), ?_⟩
      rw [da.length]
      exact q _ H1 G1 _ n1 o1 g1 (.int _) pz
    · rw [ek] at s1
      obtain ⟨z, ez, pz⟩ := s1
      exact rc_len v d z H1 G1 Q d1 o1.fm.sub ez fun u H3 G3 gr du => q u H3 G3 z n1 (o1.gr gr) (g1.trans gr.g) du pz) xw
theorem ej_tupleZ {p pos : Pos} {a : Expr} {x : Z D} (hm : X.mg "tuple" = none) (ha : EJ X EX a g x) (hg : Gl X "tuple" := by rfl) (hs : starEach [a] X.env = (false, eval a X.env) :: starEach [] X.env := by rfl) :
    EJ X EX (.Call (.Name "tuple" p) [a] [] pos) g (x >>= fun d => tupleZ d) :=
  (pe_callTy call_tuple_of hg hm (by decide +kernel) (pa_cons ha pa_nil hs) (by decide) (by decide) hs rfl).weak fun σ H Q ⟨B, G, n, φ, ξ, o, s, q, xw⟩ => te_one o s (fun v H1 G1 d n1 o1 g1 d1 s1 => by
    have s1 : tupleZ d n1 φ := s1
    unfold tupleZ at s1
    rcases ek : celOf d with _ | k
    rotate_left
    · rw [ek] at s1
      obtain ⟨a, ds, xs, ev, ga, hk, hH, da⟩ := o1.cellAt d1 ek
      obtain ⟨ds', e1, pz⟩ := s1
      rw [hk] at e1
      cases e1
      refine ⟨a, xs, by rw [ev], .inl ⟨.of hH, fun l hl => ?_⟩⟩
      obtain ⟨o2, g2⟩ := o1.alloc (u := .tup xs) hl
      exact q _ _ _ _ n1 o2 (g1.trans g2) (.tup (.inl (.inl upd_same)) (da.mono g2)) pz
    · rw [ek] at s1
      obtain ⟨z, ez, pz⟩ := s1
      exact rc_tuple v d z H1 G1 Q d1 o1.fm.sub ez fun u H3 G3 gr du => q u H3 G3 z n1 (o1.gr gr) (g1.trans gr.g) du pz) xw
/-- o[k] = e -/
theorem sj_putZ {o0 k e : Expr} {p2 pos : Pos} {x y z : Z D} (h : EJ X EX e g x) (ho : EJ X EX o0 g y) (hk : EJ X EX k g z)
    (ha : ∀ v, assign (.Subscript o0 k p2) X.env v = (do
      let ov ← holding [v] (eval o0 X.env)
      let iv ← holding [v, ov] (eval k X.env)
      standAt p2
      holding [v, ov, iv] (setItem ov iv v)
      release [v, ov, iv] []) := by intro _; rfl)
    (hs : swapsWithSole [.Subscript o0 k p2] e pos.line X.env = pure false := by kernel_rfl) (hw : swappedStores [.Subscript o0 k p2] e X.env = pure none := by kernel_rfl)
    (h1 : (assignEach [.Subscript o0 k p2] X.env).map (·.2) = [assign (.Subscript o0 k p2) X.env] := by rfl) :
    SJ X EX (.Assign [.Subscript o0 k p2] e pos) g (x >>= fun v => y >>= fun d => z >>= fun j => setZ d j v) (fun _ => g) :=
  (ps_asg h (pg_sub ho hk set_list ha) hs hw h1).weak fun De σ H ⟨B, G, n, φ, ξ, o, s, q, xw⟩ => te_one o s (fun v H1 G1 dv n1 o1 g1 d1 s1 => te_one o1 s1 (fun w H2 G2 d n2 o2 g2 d2 s2 => te_one o2 s2 (fun u H3 G3 j n3 o3 g3 d3 s3 => by
    obtain ⟨k, ek, ds', e1, es, ee, pe⟩ := (show setZ d j dv n3 φ from s3)
    obtain ⟨a, ds, xs, ev, ga, hk, hH, da⟩ := o3.cellAt (d2.mono g3) ek
    rw [hk] at e1
    cases e1
    unfold putD at ee
    cases j with
    | int j =>
      obtain ⟨t, et, rfl⟩ := Option.map_eq_some_iff.mp ee
      cases d3
      exact ⟨a, xs, j, t, ev, rfl, hH, by rw [da.length]; exact et, q () _ _ G3 _ (o3.putC ga (da.set ((d1.mono g2).mono g3) t)) ((g1.trans g2).trans g3) pe⟩
    | _ => cases ee) xw) xw) xw
/-- a, b, c = e -/
theorem sj_unp3Z (i j l : Nat) {elts : List Expr} {kk : Nat} {tpos : Pos} {e : Expr} {pos : Pos} {x : Z D} (h : EJ X EX e g x) (h1t : PG X (.Tuple elts kk tpos) (gTup X.K 3 (gCons (gName i) (gCons (gName j) (gCons (gName l) gNil))))) (h1l : PG X (.Tuple elts kk tpos) (gUnl X.K 3 (gCons (gName i) (gCons (gName j) (gCons (gName l) gNil)))))
    (hs : swapsWithSole [.Tuple elts kk tpos] e pos.line X.env = pure false := by kernel_rfl) (hw : swappedStores [.Tuple elts kk tpos] e X.env = pure none := by kernel_rfl)
    (h1 : (assignEach [.Tuple elts kk tpos] X.env).map (·.2) = [assign (.Tuple elts kk tpos) X.env] := by rfl) : SJ X EX (.Assign [.Tuple elts kk tpos] e pos) g (x >>= fun d => tripZ d) (fun de => ((g.set i (.val de.1)).set j (.val de.2.1)).set l (.val de.2.2)) := by
  have hor : PG X (.Tuple elts kk tpos) (fun v σ H Q => gTup X.K 3 (gCons (gName i) (gCons (gName j) (gCons (gName l) gNil))) v σ H Q ∨ gUnl X.K 3 (gCons (gName i) (gCons (gName j) (gCons (gName l) gNil))) v σ H Q) :=
    ⟨fun pins s σ H v u Q I r hw => hw.elim (fun hw => h1t.run pins s σ H v u Q I r hw) fun hw => h1l.run pins s σ H v u Q I r hw⟩
  refine (ps_asg h hor hs hw h1).weak fun De σ H ⟨B, G, n, φ, ξ, o, s, q, xw⟩ => te_one o s (fun v H1 G1 d n1 o1 g1 d1 s1 => ?_) xw
  have s1 : tripZ d n1 φ := s1
  unfold tripZ at s1
  rcases ek : celOf d with _ | k
  rotate_left
  · rw [ek] at s1
    obtain ⟨a, ds, xs, ev, ga, hk, hH, da⟩ := o1.cellAt d1 ek
    subst ev
    obtain ⟨ds', e1, de, ed, pd⟩ := s1
    rw [hk] at e1
    cases e1
    unfold tripD at ed
    split at ed
    · rename_i e2
      cases e2
      cases ed
      cases da with
      | cons e1 r =>
        cases r with
        | cons e2 r =>
          cases r with
          | cons e3 r =>
            cases r
            exact .inr ⟨_, _, rfl, .of hH, rfl, _, _, rfl, _, _, rfl, _, _, rfl, rfl, q _ _ _ G1 n1 (((o1.setV e1).setV e2).setV e3) g1 pd⟩
    · cases ed
  · rw [ek] at s1
    obtain ⟨de, ed, pd⟩ := s1
    unfold tripD at ed
    split at ed
    · cases ed
      cases d1 with
      | tup h da =>
        cases da with
        | cons e1 r =>
          cases r with
          | cons e2 r =>
            cases r with
            | cons e3 r =>
              cases r
              exact .inl ⟨_, _, rfl, sameT o1.fm.sub h, rfl, _, _, rfl, _, _, rfl, _, _, rfl, rfl, q _ _ _ G1 n1 (((o1.setV e1).setV e2).setV e3) g1 pd⟩
    · cases ed
end
end DD
namespace DD
open PySem PySem.Spec PyProof.Rows L2
/-! ### the deck of three parts, as cells -/
def deck3 (c : Int) (cs rs : List Int) : List Cell := [.lst [refL 1, .int c, refL 2], .lst (cs.map .int), .lst (rs.map .int)]
def spDeckZ (K : PySem.W.Frag) : Sp := fun vs H Q _ => ∃ (a : Addr) (ns : List Int), vs = [.ref a] ∧ SqL K H a (ns.map V.int) ∧
  ∀ (x y z : Addr) (H' : Hp) (cs rs : List Int), Same H H' → x ≠ y → x ≠ z → y ≠ z → H' x = some (.lst [.ref y, .int 0, .ref z]) → H' y = some (.lst (cs.map V.int)) → H' z = some (.lst (rs.map V.int)) → cs.length = rs.length → 0 < cs.length → cs.length ≤ 64 → (∀ r ∈ rs, 0 ≤ r) → Q (.ref x) H'
def deckG (x y z : Addr) : Hp := fun a => if a = x then some (.met 0 0) else if a = y then some (.met 1 1) else if a = z then some (.met 2 2) else none
theorem deckG_cases {x y z a : Addr} {u : HO} (h : deckG x y z a = some u) : (a = x ∧ u = .met 0 0) ∨ (a ≠ x ∧ a = y ∧ u = .met 1 1) ∨ (a ≠ x ∧ a ≠ y ∧ a = z ∧ u = .met 2 2) := by
  unfold deckG at h
  split at h
  · rename_i e; cases h; exact .inl ⟨e, rfl⟩
  · rename_i e1
    split at h
    · rename_i e; cases h; exact .inr (.inl ⟨e1, e, rfl⟩)
    · rename_i e2
      split at h
      · rename_i e; cases h; exact .inr (.inr ⟨e1, e2, e, rfl⟩)
      · cases h
end DD
namespace DD
open PySem PySem.Spec PyProof.Rows L2
theorem cut63_eq (ns : List Int) : cutV (ns.map V.int) none (some 63) = (ns.take 63).map V.int := by
  unfold cutV
  rw [HT.sIx_none, List.drop_zero, Nat.sub_zero, List.map_take]
  have : HT.sIx (ns.map V.int).length (ns.map V.int).length (some 63) = min 63 (ns.map V.int).length := by
    show (if (63 : Int) < 0 then (63 + ((ns.map V.int).length : Int)).toNat else min (63 : Int).toNat (ns.map V.int).length) = _
    rw [if_neg (by decide)]
    rfl
  rw [this]
  exact List.take_eq_take_min.symm
/-- the cells: what is cut out, and one 0 where there is nothing -/
def csOf (f : Int → Int) (ns : List Int) : List Int := (ns.take 63).map f ++ (if ns.length = 0 then [0] else [])
theorem csOf_len (f : Int → Int) (ns : List Int) : 0 < (csOf f ns).length ∧ (csOf f ns).length ≤ 64 := by
  unfold csOf
  rw [List.length_append, List.length_map, List.length_take]
  split
  · rename_i h; simp; omega
  · rename_i h; simp; omega
def big18 (x : Int) : Int := x * (if decide ((10 : Int) ^ 18 ≤ x) = true then 1 else 0)
theorem big18_ge (x : Int) : 0 ≤ big18 x := by
  unfold big18
  split
  · rename_i h
    have h' : (10 : Int) ^ 18 ≤ x := of_decide_eq_true h
    have : (10 : Int) ^ 18 = 1000000000000000000 := by decide
    omega
  · omega
end DD
namespace DD
open PySem PySem.Spec PyProof.Rows L2
/-! ### min(l), l a list of data that can be compared -/
section
variable {prog : Program} {w : World} {A : Around} {E : Value → Shared → Prop} {s : Shared}
theorem min_list_idx {l : Addr} {vs : Array Value} {x : D} {xs : List D} {as : List Addr} {Q : Value → Shared → Prop} (hh : A.handled = none) (hl : s.heap.IsList l vs) (hr : ReadsAll s.heap vs.toList (x :: xs) as) (ha : PySem.W.AlikeAll (x :: xs)) (hu : A.units + 1 + PyData.depthAll (x :: xs) < cLine)
    (h : ∀ (i : Nat) v h' tk, vs[i]? = some v → (x :: xs).getD i .none = PySem.W.minD x xs → (∀ b o, s.heap.get? b = some o → h'.get? b = some o) → Q v { s with heap := h', toks := tk }) :
    wpAny (model prog w) A (call (.builtin "min") [.ref l]) Q E s := by
  have hn : vs.size = xs.length + 1 := PySem.W.readsAll_len hr
  refine PySem.call_min_walkH (PySem.W.iter_listW (A := A.in1) hh hl fun s₂ e W st hfp hw hk => ?_)
  refine ⟨_, _, _, _, _, _, _, s.heap, _, rfl, W, st, hfp, by omega, hw, hk, PySem.W.cmpIn_lt (A := A.in1) hr ha (by show A.units + 1 + _ < _; exact hu), fun v s' hP m => ?_⟩
  obtain ⟨h', tk, rfl, hk'⟩ := PySem.W.moved_old e rfl m
  have e1 : vs.size - 1 = xs.length := by omega
  have e2 := (PySem.W.argBest_fold PySem.W.dataLt PyData.none x xs xs.length (Nat.le_refl _)).2
  rw [List.take_length] at e2
  rw [e1] at hP
  exact h _ v h' tk hP (by unfold PySem.W.minD; exact e2) hk'
end
def rMinA (K : PySem.W.Frag) : List V → Hp → VK → Prop := fun vs H Q => ∃ (a : Addr) (xs : List V) (x : D) (ds : List D), vs = [V.ref a] ∧ SqL K H a xs ∧ DaAll K H xs (x :: ds) ∧ okDs (x :: ds) = true ∧ PySem.W.AlikeAll (x :: ds) ∧ PyData.depthAll (x :: ds) ≤ 60 ∧
  ∀ i v, xs[i]? = some v → (x :: ds).getD i .none = PySem.W.minD x ds → Q v H
theorem vals_at : ∀ {xs : List V} {us : List Value} {i : Nat} {u : Value}, Vals xs us → us[i]? = some u → ∃ v, xs[i]? = some v ∧ RelV v u
  | _, _, _, _, .nil, h => by simp at h
  | _, _, 0, _, .cons r rr, h => by
    cases h
    exact ⟨_, rfl, r⟩
  | _, _, i + 1, _, .cons r rr, h => by
    obtain ⟨v, h1, h2⟩ := vals_at (i := i) rr (by simpa using h)
    exact ⟨v, by simpa using h1, h2⟩
section
variable {X : Cx}
theorem call_minA (hc : X.calm = true) (hy : Sys X) (hu : X.A.units + 64 < cLine) : CallR X (.builtin "min") (rMinA X.K) := by
  intro pins s σ H vs us Q I r h
  obtain ⟨a, xs, x, ds, rfl, hs, da, ok, al, hd, q⟩ := h
  obtain ⟨its, rv, hl, _⟩ := I.list hs
  obtain ⟨as, hr, _⟩ := Da.readsAll hy I _ _ _ da ok rv
  rw [Vals.ref1 r]
  refine min_list_idx (I.ok.hd hc) hl.isList hr al (by omega) fun i v h' tk e1 e2 hk => ?_
  obtain ⟨y, ey, ry⟩ := vals_at (i := i) (u := v) rv (by simpa using e1)
  exact ⟨y, H, I.kept hk, ry, q i y ey e2⟩
end
def alikeB (ds : List D) : Bool := (ds.all fun x => ds.all fun y => PySem.W.alike x y) && ds.all fun x => match x with | .none => false | _ => true
theorem alikeB_all {ds : List D} (h : alikeB ds = true) : PySem.W.AlikeAll ds := by
  unfold alikeB at h
  obtain ⟨h1, h2⟩ := Bool.and_eq_true_iff.mp h
  refine ⟨fun x hx y hy => List.all_eq_true.mp (List.all_eq_true.mp h1 x hx) y hy, fun x hx e => ?_⟩
  have := List.all_eq_true.mp h2 x hx
  rw [e] at this
  cases this
def minAD : D → Option D
  | .list (x :: ds) => if (okDs (x :: ds) && alikeB (x :: ds)) && decide (PyData.depthAll (x :: ds) ≤ 60) then some (PySem.W.minD x ds) else none
  | _ => none
theorem rc_minA {K : PySem.W.Frag} : RC1 K (rMinA K) minAD := by
  intro x dx z H G Q hx hs e q
  unfold minAD at e
  split at e
  · rename_i y ds
    split at e
    · rename_i h
      cases e
      obtain ⟨h12, h3⟩ := Bool.and_eq_true_iff.mp h
      obtain ⟨h1, h2⟩ := Bool.and_eq_true_iff.mp h12
      obtain ⟨a, xs, rfl, ha, da⟩ := hx.toL
      have daH : DaAll K H xs (y :: ds) := by
        have hd : Da K H (.ref a) (.list (y :: ds)) := (Da.lst ha da).toH hs (by simpa [okD] using h1)
        obtain ⟨a', xs', e, ha', da'⟩ := hd.toL
        cases e
        have := hs.h _ _ ha rfl
        rw [ha'] at this
        cases this
        exact da'
      refine ⟨a, xs, y, ds, rfl, .of (hs.h _ _ ha rfl), daH, h1, alikeB_all h2, of_decide_eq_true h3, fun i v ev em => ?_⟩
      obtain ⟨d, ed, dd⟩ := da.getV ev
      refine q _ H G (Gr.refl hs) ?_
      rw [← em, List.getD_eq_getElem?_getD, ed]
      exact dd
    · cases e
  · cases e
end DD
namespace DD
open PySem PySem.Spec PyProof.Rows L2
/-! ### reasoning about mirrors over worlds: the deck of three parts stands, other things may stand beside it -/
theorem zb_assoc {α β γ : Type} (x : Z α) (f : α → Z β) (g : β → Z γ) : (x >>= f) >>= g = x >>= fun a => f a >>= g := rfl
theorem zb_pure {α β : Type} (a : α) (f : α → Z β) : (Pure.pure a >>= f) = f a := rfl
theorem zb_some {α β : Type} (a : α) (f : α → Z β) : ((Mo.lift (some a) : Z α) >>= f) = f a := by rw [zl_some]; rfl
/-- the deck with room for b draws, then the other things -/
def DkZ (b : Nat) (E : List Cell) (n : Wd) : Prop := ∃ (c : Int) (cs rs : List Int), n.ob = deck3 c cs rs ++ E ∧ cs.length = rs.length ∧ 0 < cs.length ∧ cs.length ≤ 64 ∧ (∀ r ∈ rs, 0 ≤ r) ∧ 0 ≤ c ∧ c + b ≤ 2 ^ 24
theorem DkZ.le {b c : Nat} {E : List Cell} {n : Wd} (h : DkZ b E n) (hc : c ≤ b) : DkZ c E n := by
  obtain ⟨c0, cs, rs, h1, h2, h3, h4, h5, h6, h7⟩ := h
  exact ⟨c0, cs, rs, h1, h2, h3, h4, h5, h6, by omega⟩
def TrZ {α : Type} (b : Nat) (x : Z α) (φ : α → Prop) : Prop := ∀ (d : Nat) (E : List Cell) (n : Wd) (ψ : α → Wd → Prop), DkZ (b + d) E n → (∀ a E' n', DkZ d (E ++ E') n' → φ a → ψ a n') → x n ψ
section
variable {α β : Type} {b c d : Nat}
theorem TrZ.pure {a : α} {φ : α → Prop} (h : φ a) : TrZ 0 (Pure.pure a : Z α) φ := fun d E n ψ hn q => q a [] n (by rw [List.append_nil]; exact hn.le (by omega)) h
theorem TrZ.bind {x : Z α} {f : α → Z β} {φ : α → Prop} {χ : β → Prop} (h : TrZ b x φ) (hf : ∀ a, φ a → TrZ c (f a) χ) : TrZ (b + c) (x >>= f) χ := fun d E n ψ hn q =>
  h (c + d) E n (fun a n' => f a n' ψ) (hn.le (by omega)) fun a E' n' hn' ha => hf a ha d (E ++ E') n' ψ hn' fun a2 E2 n2 h2 p2 => q a2 (E' ++ E2) n2 (by rw [← List.append_assoc]; exact h2) p2
theorem TrZ.lift {o : Option α} {a : α} {φ : α → Prop} (e : o = some a) (h : φ a) : TrZ 0 (Mo.lift o : Z α) φ := fun d E n ψ hn q => ⟨a, e, q a [] n (by rw [List.append_nil]; exact hn.le (by omega)) h⟩
theorem TrZ.mono {x : Z α} {φ χ : α → Prop} (h : TrZ b x φ) (hb : b ≤ c) (hp : ∀ a, φ a → χ a) : TrZ c x χ := fun d E n ψ hn q => h d E n ψ (hn.le (by omega)) fun a E' n' hn' ha => q a E' n' hn' (hp a ha)
theorem TrZ.le {x : Z α} {φ : α → Prop} (h : TrZ b x φ) (hb : b ≤ c) : TrZ c x φ := h.mono hb fun _ z => z
/-- what sees no thing that may change -/
theorem TrZ.hide {g' : List Sl} {o : Option α} {a : α} {φ : α → Prop} (hs : okSl g' = true) (e : o = some a) (h : φ a) : TrZ 0 (hideZ g' o) φ := fun d E n ψ hn q => ⟨hs, a, e, q a [] n (by rw [List.append_nil]; exact hn.le (by omega)) h⟩
theorem TrZ.ite {t : Bool} {x y : Z α} {φ : α → Prop} (h1 : t = true → TrZ b x φ) (h2 : t = false → TrZ b y φ) : TrZ b (if t = true then x else y) φ := by
  cases t with
  | true => rw [if_pos rfl]; exact h1 rfl
  | false => rw [if_neg Bool.false_ne_true]; exact h2 rfl
theorem TrZ.comp {f : D → Z D} {P : D → D → Prop} : ∀ (ds acc : List D), (∀ d ∈ ds, TrZ c (f d) (P d)) → TrZ (ds.length * c) (lcA (fun d => someM (f d)) ds acc) (fun out => ∃ es, out = acc ++ es ∧ es.length = ds.length ∧ ∀ (i : Nat) (d e : D), ds[i]? = some d → es[i]? = some e → P d e)
  | [], acc, _ => by
    have : TrZ 0 (Pure.pure acc : Z (List D)) (fun out => ∃ es, out = acc ++ es ∧ es.length = 0 ∧ ∀ (i : Nat) (d e : D), ([] : List D)[i]? = some d → es[i]? = some e → P d e) := TrZ.pure ⟨[], by simp, rfl, fun i d e h => by simp at h⟩
    exact this.le (by omega)
  | d :: ds, acc, h => by
    have h1 : TrZ c (someM (f d)) (fun o => ∃ e, o = some e ∧ P d e) := ((h d List.mem_cons_self).bind (c := 0) fun e he => TrZ.pure ⟨e, rfl, he⟩).le (Nat.le_of_eq (Nat.add_zero c))
    refine (h1.bind (c := ds.length * c) fun o ⟨e, eo, he⟩ => ?_).le (by rw [List.length_cons, Nat.succ_mul]; omega)
    subst eo
    refine (TrZ.comp ds (acc ++ (some e).toList) fun d hd => h d (List.mem_cons_of_mem _ hd)).mono (Nat.le_refl _) ?_
    rintro out ⟨es, rfl, el, q⟩
    refine ⟨e :: es, by simp, by simp [el], fun i d' e' h1 h2 => ?_⟩
    cases i with
    | zero => simp at h1 h2; subst h1 h2; exact he
    | succ i => exact q i d' e' (by simpa using h1) (by simpa using h2)
theorem TrZ.loop {A : Type} {f : D → A → Z (Fl A)} {I : List D → A → Prop} {R : D → Prop} (ds : List D) : ∀ a : A, I ds a → (∀ d r a, I (d :: r) a → TrZ c (f d a) (Post (I r) R)) → TrZ (ds.length * c) (loopM f ds a) (Post (I []) R) := by
  induction ds with
  | nil => exact fun a h _ => (TrZ.pure (φ := Post (I []) R) (a := Fl.nx a) h).le (by omega)
  | cons d r ih =>
    intro a h hf
    refine ((hf d r a h).bind (c := r.length * c) fun z hz => ?_).le (by rw [List.length_cons, Nat.succ_mul]; omega)
    cases z with
    | nx a' => exact ih a' hz hf
    | rt v => exact (TrZ.pure (φ := Post (I []) R) (a := Fl.rt v) hz).le (by omega)
theorem TrZ.thenB {A A' : Type} {x : Z (Fl A)} {y : A → Z (Fl A')} {I : A → Prop} {χ : Fl A' → Prop} (h : TrZ b x (Post I fun _ => False)) (hy : ∀ a, I a → TrZ c (y a) χ) : TrZ (b + c) (x >>= fun f => DD.thenB f y) χ := h.bind fun z hz => by
  cases z with
  | nx a => exact hy a hz
  | rt v => exact hz.elim
theorem TrZ.thenM {A : Type} {x : Z (Fl A)} {y : A → Z D} {I : A → Prop} {χ : D → Prop} (h : TrZ b x (Post I fun _ => False)) (hy : ∀ a, I a → TrZ c (y a) χ) : TrZ (b + c) (x >>= fun f => DD.thenM f y) χ := h.bind fun z hz => by
  cases z with
  | nx a => exact hy a hz
  | rt v => exact hz.elim
theorem TrZ.bindL {α β : Type} {c : Nat} {o : Option α} {a : α} {f : α → Z β} {χ : β → Prop} (e : o = some a) (h : TrZ c (f a) χ) : TrZ c ((Mo.lift o : Z α) >>= f) χ :=
  ((TrZ.lift (φ := fun z => z = a) e rfl).bind fun z hz => hz ▸ h).le (Nat.le_of_eq (Nat.zero_add c))
theorem TrZ.st {x : Z α} {f : α → Z β} {φ : α → Prop} {χ : β → Prop} (h : TrZ b x φ) (hf : ∀ a, φ a → TrZ (d - b) (f a) χ) (hd : b ≤ d := by decide) : TrZ d (x >>= f) χ := (h.bind hf).le (by omega)
theorem TrZ.loopR {A : Type} {f : D → A → Z (Fl A)} {I : Nat → A → Prop} {R : D → Prop} {lo : Int} {n : Nat} {a : A} (h0 : I 0 a) (h : ∀ i a, i < n → I i a → TrZ c (f (.int (lo + (i : Nat))) a) (Post (I (i + 1)) R)) : TrZ (n * c) (loopM f (rangeL lo n) a) (Post (I n) R) := by
  have := TrZ.loop (c := c) (f := f) (R := R) (I := fun ds a => ∃ i, i ≤ n ∧ ds = (rangeL lo n).drop i ∧ I i a) (rangeL lo n) a ⟨0, Nat.zero_le _, rfl, h0⟩ fun e r a ⟨i, hi, ei, hI⟩ => by
    have hl : i < n := by
      by_cases z : i < n
      · exact z
      · rw [List.drop_eq_nil_of_le (by rw [rangeL_length]; omega)] at ei
        cases ei
    rw [List.drop_eq_getElem_cons (by rw [rangeL_length]; exact hl)] at ei
    obtain ⟨e1, e2⟩ := List.cons.inj ei
    have e3 : (rangeL lo n)[i]'(by rw [rangeL_length]; exact hl) = .int (lo + (i : Nat)) := by simp [rangeL]
    rw [e1, e3]
    refine (h i a hl hI).mono (Nat.le_refl _) fun z hz => ?_
    cases z with
    | nx a' => exact ⟨i + 1, hl, e2, hz⟩
    | rt v => exact hz
  rw [rangeL_length] at this
  refine this.mono (Nat.le_refl _) fun z hz => ?_
  cases z with
  | nx a' =>
    obtain ⟨i, hi, ei, hI⟩ := hz
    have : n ≤ i := by
      have e := congrArg List.length ei
      rw [List.length_drop, rangeL_length] at e
      simp at e
      omega
    obtain rfl : i = n := by omega
    exact hI
  | rt v => exact hz
theorem TrZ.thB {A A' : Type} {x : Z (Fl A)} {y : A → Z (Fl A')} {I : A → Prop} {χ : Fl A' → Prop} (h : TrZ b x (Post I fun _ => False)) (hy : ∀ a, I a → TrZ (d - b) (y a) χ) (hd : b ≤ d := by decide) : TrZ d (x >>= fun f => DD.thenB f y) χ := (TrZ.thenB h hy).le (by omega)
theorem TrZ.thM {A : Type} {x : Z (Fl A)} {y : A → Z D} {I : A → Prop} {χ : D → Prop} (h : TrZ b x (Post I fun _ => False)) (hy : ∀ a, I a → TrZ (d - b) (y a) χ) (hd : b ≤ d := by decide) : TrZ d (x >>= fun f => DD.thenM f y) χ := (TrZ.thenM h hy).le (by omega)
theorem TrZ.nx {A : Type} {a : A} {I : A → Prop} {R : D → Prop} (h : I a) : TrZ d (Pure.pure (Fl.nx a) : Z (Fl A)) (Post I R) := (TrZ.pure (φ := Post I R) (a := Fl.nx a) h).le (Nat.zero_le _)
theorem TrZ.rt {A : Type} {v : D} {I : A → Prop} {R : D → Prop} (h : R v) : TrZ d (Pure.pure (Fl.rt v) : Z (Fl A)) (Post I R) := (TrZ.pure (φ := Post I R) (a := Fl.rt v) h).le (Nat.zero_le _)
theorem TrZ.li {α : Type} {o : Option α} {a : α} {φ : α → Prop} (e : o = some a) (h : φ a) : TrZ d (Mo.lift o : Z α) φ := (TrZ.lift e h).le (Nat.zero_le _)
theorem TrZ.eq {α : Type} {b : Nat} {x : Z α} {a : α} {φ : α → Prop} (e : x = Pure.pure a) (h : φ a) : TrZ b x φ := by
  rw [e]
  exact (TrZ.pure h).le (Nat.zero_le _)
end
/-! worlds step by step -/
section
variable {α β : Type} {n : Wd} {ψ : β → Wd → Prop}
theorem zL {o : Option α} {a : α} {f : α → Z β} (e : o = some a) (h : f a n ψ) : ((Mo.lift o : Z α) >>= f) n ψ := ⟨a, e, h⟩
theorem zIx {k : Nat} {ds : List D} {j d : D} {f : D → Z β} (e : n.ob[k]? = some (.lst ds)) (ej : getD (.list ds) j = some d) (h : f d n ψ) : (ixZ (refL k) j >>= f) n ψ := by
  unfold ixZ
  rw [cel_ref]
  exact ⟨ds, e, d, ej, h⟩
theorem zIx0 {a j d : D} {f : D → Z β} (hc : celOf a = none) (ej : getD a j = some d) (h : f d n ψ) : (ixZ a j >>= f) n ψ := by
  unfold ixZ
  rw [hc]
  exact ⟨d, ej, h⟩
theorem zLen {k : Nat} {ds : List D} {f : D → Z β} (e : n.ob[k]? = some (.lst ds)) (h : f (.int ds.length) n ψ) : (lenZ (refL k) >>= f) n ψ := by
  unfold lenZ
  rw [cel_ref]
  exact ⟨ds, e, h⟩
theorem zTup {k : Nat} {ds : List D} {f : D → Z β} (e : n.ob[k]? = some (.lst ds)) (h : f (.tuple ds) n ψ) : (tupleZ (refL k) >>= f) n ψ := by
  unfold tupleZ
  rw [cel_ref]
  exact ⟨ds, e, h⟩
theorem zTrip {k : Nat} {x y z : D} {f : D × D × D → Z β} (e : n.ob[k]? = some (.lst [x, y, z])) (h : f (x, y, z) n ψ) : (tripZ (refL k) >>= f) n ψ := by
  unfold tripZ
  rw [cel_ref]
  exact ⟨_, e, _, rfl, h⟩
theorem zSet {k : Nat} {ds es : List D} {j v : D} {f : Unit → Z β} (e : n.ob[k]? = some (.lst ds)) (ep : putD ds j v = some es) (h : f () ⟨n.n, n.ob.set k (.lst es)⟩ ψ) : (setZ (refL k) j v >>= f) n ψ := by
  unfold setZ onlyZ
  rw [cel_ref]
  exact ⟨k, rfl, ds, e, es, ep, h⟩
end
end DD
namespace DD
open PySem PySem.Spec PyProof.Rows L2
/-! ### a plain mirror (also one that draws) within a mirror over worlds -/
/-- monads over worlds -/
class OverZ (m : Type → Type) [Mo m] where
  up : {α : Type} → Z α → m α
  sat_up : ∀ {α : Type} {z : Z α} {n : Wd} {φ : α → Wd → Prop} {ξ : Exn → Wd → Prop}, Mo.sat (up z) n φ ξ → z n φ
instance : OverZ Z := ⟨fun z => z, fun h => h⟩
def hidP {m' : Type → Type} [Mo m'] {α : Type} (g : List Sl) (x : m' α) : Z α := fun n φ => okSl g = true ∧ Mo.sat x ⟨n.n, []⟩ (fun a n' => φ a ⟨n'.n, n.ob⟩) (fun _ _ => False)
section
variable {K : PySem.W.Frag} {B : Bs} {g g' : List Sl} {σ : L2.St} {H G : Hp} {n : Wd}
theorem hidP_back (o : Ok K B g σ H G n) {H' G' : Hp} {n' : Wd} (hn : n'.ob = []) (f : Fm K ⟨H, hid G, B.dk, hid G⟩ H' G' n') : Ok K B g σ H' (mrk G G') ⟨n'.n, n.ob⟩ ∧ Same G (mrk G G') ∧ Same G' (mrk G G') := by
  obtain ⟨k, ob⟩ := n'
  dsimp only at hn
  subst hn
  exact o.unhide (n' := ⟨k, []⟩) f (fun a u e => hid_nomk e) f.old (fun a e h => f.new a h e) f.sub fun a u e => nomk f.obs e
theorem Ok.hidPL (o : Ok K B g σ H G n) (sb : Sub g g') (hs : okSl g' = true) : ∃ G1 : Hp, Ok K ⟨H, G1, B.dk, G1⟩ (lendG g') σ H G1 ⟨n.n, []⟩ ∧
    ∀ (H' G' : Hp) (n' : Wd), n'.ob = [] → Fm K ⟨H, G1, B.dk, G1⟩ H' G' n' → (Ok K B g σ H' (mrk G (cutB H (hid G) G')) ⟨n'.n, n.ob⟩ ∧ Same G (mrk G (cutB H (hid G) G')) ∧ Same (cutB H (hid G) G') (mrk G (cutB H (hid G) G'))) ∧ ∀ a o, G' a = some o → hid G a = none → H a ≠ none → ∃ xs, o = .lst xs := by
  have oh := o.hide sb hs
  obtain ⟨G1, o1, back⟩ := oh.lend rfl
  refine ⟨G1, o1, fun H' G' n' hn f => ?_⟩
  obtain ⟨k, ob⟩ := n'
  dsimp only at hn
  subst hn
  obtain ⟨⟨o2, s2⟩, lst⟩ := back H' G' _ rfl f
  exact ⟨o.unhide (n' := ⟨k, []⟩) f (fun a u e => nomk o1.fm.obs e) s2 (fun a e h => cutB_out e h) o2.fm.sub fun a u e => nomk o2.fm.obs e, lst⟩
end
section
variable {m m' : Type → Type} [Mo m] [OverZ m] [Mo m'] [Plain m'] {X : Cx} {EX : XR} {g : List Sl}
theorem ej_hidP (g' : List Sl) {e : Expr} {x : m' D} (h : EJ (m := m') X X0 e g' x) (sb : Sub g g') (ho : noOwns g' = true := by rfl) : EJ (m := m) X EX e g (OverZ.up (hidP g' x)) :=
  PE.weak h fun σ H Q ⟨B, G, n, φ, ξ, o, s, q, xw⟩ => by
    obtain ⟨hs, sx⟩ := OverZ.sat_up s
    exact ⟨⟨H, hid G, B.dk, hid G⟩, hid G, ⟨n.n, []⟩, _, _, o.hide0 sb hs ho, (Plain.plain sx).2, fun v H' G' d n' o' g1 dv ⟨hn, p⟩ => by
      obtain ⟨o2, g2, g3⟩ := hidP_back o hn o'.fm
      exact q v H' _ d _ o2 g2 (dv.mono g3) p, fun _ _ _ _ _ _ _ z => z.2.elim⟩
theorem tj_hidP (g' : List Sl) {e : Expr} {x : m' Bool} (h : TJ (m := m') X X0 e g' x) (sb : Sub g g') (ho : noOwns g' = true := by rfl) : TJ (m := m) X EX e g (OverZ.up (hidP g' x)) :=
  PT.weak h fun σ H Q ⟨B, G, n, φ, ξ, o, s, q, xw⟩ => by
    obtain ⟨hs, sx⟩ := OverZ.sat_up s
    exact ⟨⟨H, hid G, B.dk, hid G⟩, hid G, ⟨n.n, []⟩, _, _, o.hide0 sb hs ho, (Plain.plain sx).2, fun b H' G' n' o' g1 ⟨hn, p⟩ => by
      obtain ⟨o2, g2, g3⟩ := hidP_back o hn o'.fm
      exact q b H' _ _ o2 g2 p, fun _ _ _ _ _ _ _ z => z.2.elim⟩
theorem tl_hidP (g' : List Sl) {x : m' (List D)} (sb : Sub g g') (ho : noOwns g' = true) {σ : L2.St} {H : Hp} {Q : VK} (h : tlJ (m := m) X EX g (OverZ.up (hidP g' x)) σ H Q) : tlJ (m := m') X X0 g' x σ H Q := by
  obtain ⟨B, G, n, φ, ξ, o, s, q, xw⟩ := h
  obtain ⟨hs, sx⟩ := OverZ.sat_up s
  refine ⟨⟨H, hid G, B.dk, hid G⟩, hid G, ⟨n.n, []⟩, _, _, o.hide0 sb hs ho, (Plain.plain sx).2, fun p xs H' G' ds n' o' g1 hb hg hh hf da ⟨hn, pp⟩ => ?_, fun _ _ _ _ _ _ _ z => z.2.elim⟩
  obtain ⟨o2, g2, g3⟩ := hidP_back o hn o'.fm
  have hp : H p = none := hb
  have gp : G p = none := o.fm.sub.t p hp
  obtain ⟨f1, f2⟩ := o.fresh hp
  exact q p xs H' _ ds _ o2 g2 f1 (by rw [mrk_r gp]; exact hg) hh f2 (da.mono g3) pp
theorem lj_hidP (g' : List Sl) {e : Expr} {x : m' (List D)} (h : LJ (m := m') X X0 e g' x) (sb : Sub g g') (ho : noOwns g' = true := by rfl) : LJ (m := m) X EX e g (OverZ.up (hidP g' x)) := PE.weak h fun σ H Q => tl_hidP g' sb ho
theorem lcp_hidP (g' : List Sl) {e : Expr} {x : m' (List D)} (h : LcP (m := m') X X0 e g' x) (sb : Sub g g') (ho : noOwns g' = true := by rfl) : LcP (m := m) X EX e g (OverZ.up (hidP g' x)) := ⟨lj_hidP g' h.expr sb ho, fun nd hy hl hs => (h.stmt nd hy hl hs).weak fun De σ H => tl_hidP g' sb ho⟩
/-! .. lists of one's own lent -/
theorem tj_hidPL (g' : List Sl) {e : Expr} {x : m' Bool} (h : TJ (m := m') X X0 e (lendG g') x) (sb : Sub g g') : TJ (m := m) X EX e g (OverZ.up (hidP g' x)) :=
  PT.weak h fun σ H Q ⟨B, G, n, φ, ξ, o, s, q, xw⟩ => by
    obtain ⟨hs, sx⟩ := OverZ.sat_up s
    obtain ⟨G1, o1, back⟩ := o.hidPL sb hs
    refine ⟨⟨H, G1, B.dk, G1⟩, G1, ⟨n.n, []⟩, _, _, o1, (Plain.plain sx).2, fun b H' G' n' o' g1 ⟨hn, p⟩ => ?_, fun _ _ _ _ _ _ _ z => z.2.elim⟩
    obtain ⟨⟨o2, g2, g3⟩, hl⟩ := back H' G' n' hn o'.fm
    exact q b H' _ _ o2 g2 p
end
end DD
namespace DD
open PySem PySem.Spec PyProof.Rows L2
/-! ### instances that change: cells of the world -/
def ownOf : D → Option Nat
  | .dict [(.none, .int i)] => if bigI ≤ i then some (i - bigI).toNat else none
  | _ => none
theorem own_ref (k : Nat) : ownOf (refD k) = some k := by
  show (if bigI ≤ bigI + (k : Int) then some (bigI + (k : Int) - bigI).toNat else none) = _
  rw [if_pos (by omega)]
  congr 1
  omega
def insZ (k : Nat) : Z (Str × List (Str × D)) := fun n φ => ∃ c fs, n.ob[k]? = some (.ins c fs) ∧ φ (c, fs) n
def putI (k : Nat) (c : Str) (fs : List (Str × D)) : Z Unit := fun n φ => φ () ⟨n.n, n.ob.set k (.ins c fs)⟩
def newI (c : Str) : Z D := fun n φ => φ (refD n.ob.length) ⟨n.n, n.ob ++ [.ins c []]⟩
/-- the class of an instance that changes -/
def clsZ (c : Str) (d : D) : Z (List (Str × D)) := Mo.lift (ownOf d) >>= fun k => insZ k >>= fun p => Mo.lift (if p.1 = c then some p.2 else none)
def attrZ (c f : Str) (d : D) : Z D := clsZ c d >>= fun fs => Mo.lift (fs.lookup f)
def putL (f : Str) (v : D) : List (Str × D) → List (Str × D)
  | [] => [(f, v)]
  | (g, x) :: r => if g = f then (g, v) :: r else (g, x) :: putL f v r
def setAZ (c f : Str) (d v : D) : Z Unit := Mo.lift (ownOf d) >>= fun k => insZ k >>= fun p => Mo.lift (if p.1 = c ∧ p.2.length < 900 then some () else none) >>= fun _ => putI k c (putL f v p.2)
/-- an instance of the class that has no attribute of the method's name -/
def selfZ (c mn : Str) (d : D) : Z Unit := clsZ c d >>= fun fs => Mo.lift (if (fs.lookup mn).isNone = true then some () else none)
section
variable {K : PySem.W.Frag} {B : Bs} {g : List Sl} {σ : L2.St} {H G : Hp} {n : Wd}
theorem Da.own {v : V} {d : D} {k : Nat} (h : Da K G v d) (e : ownOf d = some k) : ∃ a, v = .ref a ∧ G a = some (.own k) := by
  cases h with
  | obj h =>
    rename_i a j
    have : ownOf (refD j) = some k := e
    rw [own_ref] at this
    cases this
    exact ⟨_, rfl, h⟩
  | @dct a kvs h _ =>
    unfold ownOf at e
    split at e
    · rename_i z
      cases kvs with
      | nil => cases z
      | cons p r =>
        rw [List.map_cons] at z
        injection z with z
        injection z with z z2
        obtain ⟨key, w⟩ := p
        have z3 := congrArg Prod.fst z
        cases key <;> cases z3
    · cases e
  | cel h =>
    cases e
  | _ => cases e
theorem lkp_da {f : Str} : ∀ {vs : List (Str × V)} {fs : List (Str × D)}, vs.map (·.1) = fs.map (·.1) → DaAll K G (vs.map (·.2)) (fs.map (·.2)) → (∀ d, fs.lookup f = some d → ∃ v, vs.lookup f = some v ∧ Da K G v d) ∧ (fs.lookup f = none → vs.lookup f = none)
  | [], [], _, _ => ⟨fun d h => (by cases h), fun _ => rfl⟩
  | [], _ :: _, h, _ => by cases h
  | _ :: _, [], h, _ => by cases h
  | (k, v) :: vs, (k', d') :: fs, h, .cons a b => by
    have hk : k = k' := by injection h
    have ht : vs.map (·.1) = fs.map (·.1) := by injection h
    subst hk
    obtain ⟨i1, i2⟩ := lkp_da (f := f) ht b
    rw [List.lookup_cons, List.lookup_cons]
    cases z : (f == k)
    · exact ⟨i1, i2⟩
    · exact ⟨fun d hd => (by cases hd; exact ⟨v, rfl, a⟩), fun hd => (by cases hd)⟩
theorem put_da {f : Str} {w : V} {y : D} (hw : Da K G w y) : ∀ {vs : List (Str × V)} {fs : List (Str × D)}, vs.map (·.1) = fs.map (·.1) → DaAll K G (vs.map (·.2)) (fs.map (·.2)) → (putF f w vs).map (·.1) = (putL f y fs).map (·.1) ∧ DaAll K G ((putF f w vs).map (·.2)) ((putL f y fs).map (·.2))
  | [], [], _, _ => ⟨rfl, .cons hw .nil⟩
  | [], _ :: _, h, _ => by cases h
  | _ :: _, [], h, _ => by cases h
  | (k, v) :: vs, (k', d') :: fs, h, .cons a b => by
    have hk : k = k' := by injection h
    have ht : vs.map (·.1) = fs.map (·.1) := by injection h
    subst hk
    obtain ⟨i1, i2⟩ := put_da (f := f) hw ht b
    show ((if k = f then (k, w) :: vs else (k, v) :: putF f w vs).map (·.1) = (if k = f then (k, y) :: fs else (k, d') :: putL f y fs).map (·.1)) ∧ DaAll K G ((if k = f then (k, w) :: vs else (k, v) :: putF f w vs).map (·.2)) ((if k = f then (k, y) :: fs else (k, d') :: putL f y fs).map (·.2))
    by_cases z : k = f
    · rw [if_pos z, if_pos z]
      exact ⟨by rw [List.map_cons, List.map_cons, ht], .cons hw b⟩
    · rw [if_neg z, if_neg z]
      exact ⟨by rw [List.map_cons, List.map_cons, i1], .cons a i2⟩
theorem Ok.insAt (o : Ok K B g σ H G n) {v : V} {d : D} {k : Nat} {c : Str} {fs : List (Str × D)} (h : Da K G v d) (e : ownOf d = some k) (hk : n.ob[k]? = some (.ins c fs)) : ∃ a C dx vs, v = .ref a ∧ G a = some (.own k) ∧ ClsOk K c C ∧ H a = some (.ins C dx vs) ∧ vs.map (·.1) = fs.map (·.1) ∧ DaAll K G (vs.map (·.2)) (fs.map (·.2)) := by
  obtain ⟨a, rfl, ga⟩ := h.own e
  obtain ⟨c', h1, h2⟩ := o.fm.obs.at_ a _ k ga rfl
  rw [hk] at h1
  cases h1
  obtain ⟨_, C, dx, vs, q1, q2, q3, q4⟩ := h2
  exact ⟨a, C, dx, vs, rfl, ga, q1, q2, q3, q4⟩
/-- a thing that may change is changed -/
theorem Ok.putG (o : Ok K B g σ H G n) {a : Addr} {k : Nat} {u w : HO} {c : Cell} (ha : G a = some u) (hm : mkOf u = some k) (hc : CellAt K G (upd H a w) a k c) : Ok K B g σ (upd H a w) G ⟨n.n, n.ob.set k c⟩ := by
  obtain ⟨c0, hk, h0⟩ := o.fm.obs.at_ a u k ha hm
  have klt : k < n.ob.length := (List.getElem?_eq_some_iff.mp hk).1
  have um : isMk u = true := by unfold isMk; rw [hm]; rfl
  have ne : ∀ b, G b = none → b ≠ a := fun b h e => by rw [e, ha] at h; cases h
  refine ⟨⟨fun b z e q => ?_, ⟨fun b z e m => ?_, fun b e => ?_⟩, o.fm.old, ⟨fun b z j e m => ?_, o.fm.obs.inj, fun j d e => ?_⟩, o.fm.bt, o.fm.tg, o.fm.new, fun x y e => ?_⟩, o.len, o.val, ?_, o.dck, o.adr, o.fnc⟩
  · have : b ≠ a := by
      rintro rfl
      cases eb : B.G b with
      | none => rw [o.fm.new b (by rw [e]; simp) eb] at ha; cases ha
      | some x =>
        have := o.fm.old b x eb
        rw [ha] at this
        cases this
        exact q (.inr ⟨_, eb, um⟩)
    rw [upd_ne this]
    exact o.fm.keep b z e q
  · have : b ≠ a := by
      rintro rfl
      rw [ha] at e
      cases e
      rw [um] at m
      cases m
    rw [upd_ne this]
    exact o.fm.sub.h b z e m
  · by_cases hb : b = a
    · rw [hb, upd_same] at e; cases e
    · rw [upd_ne hb] at e; exact o.fm.sub.t b e
  · by_cases hb : b = a
    · subst hb
      rw [ha] at e
      cases e
      have hj : k = j := Option.some.inj (hm.symm.trans m)
      subst hj
      refine ⟨c, ?_, hc⟩
      show (n.ob.set k c)[k]? = _
      rw [List.getElem?_set_self klt]
    · have hj : k ≠ j := fun x => hb (o.fm.obs.inj b a z u k e ha (x ▸ m) hm)
      obtain ⟨d, h1, h2⟩ := o.fm.obs.at_ b z j e m
      refine ⟨d, ?_, h2.mono (Same.refl _) ?_⟩
      · show (n.ob.set k c)[j]? = _
        rw [List.getElem?_set_ne hj]; exact h1
      · intro x hx
        rw [upd_ne hb]; exact hx
  · by_cases hj : k = j
    · subst hj
      have e' : (n.ob.set k c)[k]? = some d := e
      rw [List.getElem?_set_self klt] at e'
      cases e'
      exact ⟨a, hc⟩
    · have e' : (n.ob.set k c)[j]? = some d := e
      rw [List.getElem?_set_ne hj] at e'
      obtain ⟨b, hb⟩ := o.fm.obs.all j d e'
      obtain ⟨x, hu, hm'⟩ := hb.mark
      have hba : b ≠ a := by
        rintro rfl
        rw [ha] at hu
        cases hu
        exact hj (Option.some.inj (hm.symm.trans hm'))
      refine ⟨b, hb.mono (Same.refl _) ?_⟩
      intro x hx
      rw [upd_ne hba]; exact hx
  · obtain ⟨⟨cs, i, e1, e2, r⟩, h1, h2, h3, h4⟩ := o.fm.deck x y e
    exact ⟨⟨cs, i, by rw [upd_ne (ne x (o.fm.new x h1 h3))]; exact e1, by rw [upd_ne (ne y (o.fm.new y h2 h4))]; exact e2, r⟩, h1, h2, h3, h4⟩
  · obtain ⟨f, h1, h2⟩ := o.own
    refine ⟨f, h1, fun i es e => ?_⟩
    obtain ⟨q1, q2, q3, ys, q4, q5⟩ := h2 i es e
    exact ⟨q1, q2, q3, ys, by rw [upd_ne (ne _ q2)]; exact q4, q5⟩
/-- a new object is marked as a thing that may change -/
theorem Ok.mark (o : Ok K B g σ H G n) {p : Addr} {u w : HO} {c : Cell} (hb : B.H p = none) (hg : G p = none) (hh : H p = some w) (hf : ∀ (i : Nat) (es : List D) (f : Addr), g[i]? = some (Sl.own es) → σ[i]? = some (some (V.ref f)) → f ≠ p)
    (hm : mkOf u = some n.ob.length) (hc : CellAt K (upd G p u) H p n.ob.length c) : Ok K B g σ H (upd G p u) ⟨n.n, n.ob ++ [c]⟩ ∧ Same G (upd G p u) := by
  have sg : Same G (upd G p u) := same_upd hg
  have um : isMk u = true := by unfold isMk; rw [hm]; rfl
  have old : ∀ b z, b ≠ p → upd G p u b = some z → G b = some z := fun b z h e => by rw [upd_ne h] at e; exact e
  have low : ∀ b z j, b ≠ p → upd G p u b = some z → mkOf z = some j → j < n.ob.length := fun b z j h e m => by
    obtain ⟨d, h1, _⟩ := o.fm.obs.at_ b z j (old b z h e) m
    exact (List.getElem?_eq_some_iff.mp h1).1
  refine ⟨⟨⟨o.fm.keep, ⟨fun a z e m => ?_, fun a e => ?_⟩, o.fm.old.trans sg, ⟨fun b z j e m => ?_, fun b b' z z' j e1 e2 m1 m2 => ?_, fun j d e => ?_⟩, o.fm.bt, o.fm.tg.trans sg, fun a e q => ?_, o.fm.deck⟩, o.len, fun i d e => ?_, ?_, o.dck, fun i a od fs e => ⟨(o.adr i a od fs e).1, (o.adr i a od fs e).2.mono sg⟩, fun i f F e => ⟨(o.fnc i f F e).1, (o.fnc i f F e).2.2 _ _ sg (o.fnc i f F e).2.1, (o.fnc i f F e).2.2⟩⟩, sg⟩
  · by_cases ha : a = p
    · rw [ha, upd_same] at e; cases e; rw [um] at m; cases m
    · exact o.fm.sub.h a z (old a z ha e) m
  · have : a ≠ p := by rintro rfl; rw [hh] at e; cases e
    rw [upd_ne this]; exact o.fm.sub.t a e
  · by_cases hbp : b = p
    · subst hbp
      rw [upd_same] at e
      cases e
      have hj : n.ob.length = j := Option.some.inj (hm.symm.trans m)
      subst hj
      exact ⟨c, by simp, hc⟩
    · obtain ⟨d, h1, h2⟩ := o.fm.obs.at_ b z j (old b z hbp e) m
      have hl := (List.getElem?_eq_some_iff.mp h1).1
      exact ⟨d, by show (n.ob ++ [c])[j]? = _; rw [List.getElem?_append_left hl]; exact h1, h2.mono sg fun _ z => z⟩
  · by_cases hbp : b = p <;> by_cases hcp : b' = p
    · rw [hbp, hcp]
    · subst hbp
      rw [upd_same] at e1
      cases e1
      have hj : n.ob.length = j := Option.some.inj (hm.symm.trans m1)
      have := low b' z' j hcp e2 m2
      omega
    · subst hcp
      rw [upd_same] at e2
      cases e2
      have hj : n.ob.length = j := Option.some.inj (hm.symm.trans m2)
      have := low b z j hbp e1 m1
      omega
    · exact o.fm.obs.inj b b' z z' j (old b z hbp e1) (old b' z' hcp e2) m1 m2
  · have e' : (n.ob ++ [c])[j]? = some d := e
    by_cases hl : j < n.ob.length
    · rw [List.getElem?_append_left hl] at e'
      obtain ⟨b, h⟩ := o.fm.obs.all j d e'
      exact ⟨b, h.mono sg fun _ z => z⟩
    · have hl' : n.ob.length ≤ j := Nat.le_of_not_lt hl
      rw [List.getElem?_append_right hl'] at e'
      have hj : j = n.ob.length := by
        have h3 : j - n.ob.length < 1 := (List.getElem?_eq_some_iff.mp e').1
        exact Nat.le_antisymm (Nat.le_of_sub_eq_zero (Nat.lt_one_iff.mp h3)) hl'
      subst hj
      rw [Nat.sub_self] at e'
      cases e'
      exact ⟨p, hc⟩
  · have : a ≠ p := by rintro rfl; exact e hb
    rw [upd_ne this]; exact o.fm.new a e q
  · obtain ⟨v, h1, h2⟩ := o.val i d e
    exact ⟨v, h1, h2.mono sg⟩
  · obtain ⟨f, h1, h2⟩ := o.own
    refine ⟨f, h1, fun i es e => ?_⟩
    obtain ⟨a, b, x, ys, d, da'⟩ := h2 i es e
    exact ⟨a, by rw [upd_ne (hf i es _ e a)]; exact b, x, ys, d, da'.mono sg⟩
/-- a new instance -/
theorem Ok.insN (o : Ok K B g σ H G n) {x dx C : Addr} {c : Str} (hx : H x = none) (hdx : H dx = none) (hne : dx ≠ x) (hc : ClsOk K c C) :
    Ok K B g σ (upd (upd H dx (.own x)) x (.ins C dx [])) (upd G x (.own n.ob.length)) ⟨n.n, n.ob ++ [.ins c []]⟩ ∧ Same G (upd G x (.own n.ob.length)) := by
  obtain ⟨f1, f2⟩ := o.fresh hx
  have o1 := (o.raw (u := .own x) hdx).raw (p := x) (u := .ins C dx []) (by rw [upd_ne (Ne.symm hne)]; exact hx)
  exact o1.mark f1 (o.fm.sub.t x hx) upd_same f2 rfl ⟨upd_same, C, dx, [], hc, upd_same, rfl, .nil⟩
end
theorem clsZ_out {c : Str} {d : D} {n : Wd} {φ : List (Str × D) → Wd → Prop} (h : clsZ c d n φ) : ∃ k fs, ownOf d = some k ∧ n.ob[k]? = some (.ins c fs) ∧ φ fs n := by
  obtain ⟨k, ek, c', fs, hk, fs', hc, p⟩ := h
  dsimp only at hc
  split at hc
  · rename_i z
    subst z
    cases hc
    exact ⟨k, fs, ek, hk, p⟩
  · cases hc
section
variable {m : Type → Type} [Mo m] [OverZ m] {X : Cx} {EX : XR} {g : List Sl} {k : Nat} {ps : List Str} {p pos apos : Pos} {c mn : Str} {ob e : Expr} {es : List Expr} {x : m D}
/-- e.f -/
theorem ej_attrZ {fl : Str} (h : HasNo X.K c fl) (he : EJ X EX e g x) (hb : attributeBase e fl X.env (eval e X.env) = eval e X.env := by rfl) : EJ X EX (.Attribute e fl pos) g (x >>= fun d => OverZ.up (attrZ c fl d)) := by
  obtain ⟨C, hcl, hno⟩ := h.ex
  exact (pe_fld he hb).weak fun σ H Q ⟨B, G, n, φ, ξ, o, s, q, xw⟩ => te_one o s (fun v H1 G1 d n1 o1 g1 d1 s1 => by
    have s2 : attrZ c fl d n1 φ := OverZ.sat_up s1
    obtain ⟨k, fs, ek, hk, z, ez, pz⟩ := clsZ_out (show clsZ c d n1 (fun fs n' => (Mo.lift (fs.lookup fl) : Z D) n' φ) from s2)
    obtain ⟨a, C', dx, vs, rfl, ga, ck, ea, hl, da⟩ := o1.insAt d1 ek hk
    obtain rfl := hcl.one ck
    obtain ⟨v, hv, dv⟩ := (lkp_da hl da).1 z ez
    exact ⟨a, C', dx, vs, v, rfl, ea, hcl.cl, hno, hv, q v H1 G1 z n1 o1 g1 dv pz⟩) xw
/-- o.f = e -/
theorem sj_attrZ {fl : Str} {o0 : Expr} {p' : Pos} {y : m D} (h : HasNo X.K c fl) (he : EJ X EX e g x) (ho : EJ X EX o0 g y) (hs : swapsWith e (some (.Attribute o0 fl p')) pos.line X.env = pure false := by rfl) :
    SJ X EX (.Assign [.Attribute o0 fl p'] e pos) g (x >>= fun v => y >>= fun d => OverZ.up (setAZ c fl d v)) (fun _ => g) := by
  obtain ⟨C, hcl, hno⟩ := h.ex
  exact (ps_fld ho he hs).weak fun De σ H ⟨B, G, n, φ, ξ, o, s, q, xw⟩ => te_one o s (fun v H1 G1 dv n1 o1 g1 d1 s1 => te_one o1 s1 (fun w H2 G2 d n2 o2 g2 d2 s2 => by
    obtain ⟨k, ek, c', fs, hk, u, hu, pe⟩ := OverZ.sat_up s2
    dsimp only at hu
    split at hu
    · rename_i hc
      obtain ⟨z, h9⟩ := hc
      have z : c' = c := z
      subst z
      obtain ⟨a, C', dx, vs, rfl, ga, ck, ea, hl, da⟩ := o2.insAt d2 ek hk
      obtain rfl := hcl.one ck
      obtain ⟨q1, q2⟩ := put_da (f := fl) (d1.mono g2) hl da
      have hlen : vs.length < 1000 := by
        have e1 : vs.length = fs.length := by simpa using congrArg List.length hl
        have h9 : fs.length < 900 := h9
        omega
      refine ⟨a, C', dx, vs, rfl, ea, hcl.cl, hno, hlen, ?_⟩
      exact q () _ _ G2 _ (o2.putG (c := .ins c' (putL fl dv fs)) ga rfl ⟨ga, C', dx, _, hcl, upd_same, q1, q2⟩) (g1.trans g2) pe
    · cases hu) xw) xw
end
end DD
namespace DD
open PySem PySem.Spec PyProof.Rows L2
/-! ### instances that change: making, methods, properties, len, str -/
section
variable (P : Program) (w : World) (K : PySem.W.Frag) (mg : Str → Option Value) (base : Heap) (k : Nat) (c : Str) (ps : List Str)
structure MkG (sp : Sp) : Prop where
  ex : ∃ C f fd, ClsOk K c C ∧ mg c = some (.ref C) ∧ Mk K C f ∧ FnG P w K mg base k f fd ps sp ∧ Binds K fd ps []
end
theorem run_makeG {X : Cx} {k : Nat} {C f : Addr} {fd : FuncData} {ps : List Str} {sp : Sp} {pins : List (Addr × Obj)} {σ : L2.St} {H : Hp} {s : Shared} {Q : VK} {us : List Value} {vs : List V} (M : Mk X.K C f) (F : FnG X.prog X.w X.K X.mg X.base k f fd ps sp) (hr : Room (k + 1) X.A) (gu : X.A.guards = some []) (hb : Binds X.K fd ps [])
    (I : Inv X pins σ H s) (r : Vals vs us)
    (h : ∀ x dx, H x = none → H dx = none → dx ≠ x → sp (.ref x :: vs) (upd (upd H dx (.own x)) x (.ins C dx [])) (fun v H2 => v = .non ∧ Q (.ref x) H2) E0) :
    wpAny (model X.prog X.w) X.A (call (.ref C) us) (EP X pins σ Q) X.xe s := by
  have body := h (s.heap.objs.size + 1) s.heap.objs.size (I.hok.fresh (Nat.le_succ _)) (I.hok.fresh (Nat.le_refl _)) (Nat.ne_of_lt (Nat.lt_succ_self _))
  have J := Inv.made (C := C) I
  have rr : Vals (V.ref (s.heap.objs.size + 1) :: vs) (Value.ref (s.heap.objs.size + 1) :: us) := .cons rfl r
  have bd := hb _ (Value.ref (s.heap.objs.size + 1) :: us) J.kIn (by
    rw [List.append_nil, ← rr.length]
    exact F.len _ _ _ _ body)
  rw [List.append_nil] at bd
  refine wpAny_call (make_map (f := f) I.kIn M.makes M.init (beq_iff_eq.mp M.fn) (codeAny_mono (F.run _ X.stack _ _ ⟨Value.ref (s.heap.objs.size + 1) :: us, []⟩ (Value.ref (s.heap.objs.size + 1) :: us) _ _ E0 (hr.make C us []) gu
    (J.env0.make C us []) bd rr body) fun z s' hz => ?_))
  cases z with
  | error e => exact False.elim hz
  | ok fl =>
    cases fl with
    | ret u =>
      obtain ⟨v, H', J2, rv, ev, q3⟩ := J.after hz
      subst ev
      exact ⟨rv, ⟨V.ref (s.heap.objs.size + 1), H', J2, rfl, q3⟩⟩
    | next => exact False.elim hz
    | brk => exact False.elim hz
    | cont => exact False.elim hz
theorem pe_makeG {X : Cx} {k : Nat} {C f : Addr} {fd : FuncData} {ps : List Str} {sp : Sp} {x : Str} {p pos : Pos} {e : Expr} {es : List Expr} {t : TA} (M : Mk X.K C f) (F : FnG X.prog X.w X.K X.mg X.base k f fd ps sp) (hr : Room (k + 1) X.A) (gu : X.A.guards = some []) (hg : Gl X x) (hm : X.mg x = some (.ref C)) (hb : Binds X.K fd ps [])
    (ha : PA X (e :: es) t) (hd : (x == ("__debug__" : Str)) = false) (he : starEach (e :: es) X.env = (false, eval e X.env) :: starEach es X.env) (hpl : (backTo pos (starEach es X.env)).any (·.1) = false) :
    PE X (.Call (.Name x p) (e :: es) [] pos) (fun σ H Q => t σ H fun vs H1 => ∀ x dx, H1 x = none → H1 dx = none → dx ≠ x → sp (.ref x :: vs) (upd (upd H1 dx (.own x)) x (.ins C dx [])) (fun v H2 => v = .non ∧ Q (.ref x) H2) E0) :=
  ⟨fun pins s σ H Q I h => wpAny_Call_Name_kw (ld_glob I hg hm (PySem.W.callWith_K (h₀ := X.base) I.ok.mod.kin M.kp (thn (ha.run pos pins s σ H _ I h) fun us s1 ⟨vs, H1, I1, r, q⟩ => ⟨I1.kIn, run_makeG M F hr gu hb I1 r q⟩) he hpl) hd)⟩
def nonO : D → Option Unit
  | .none => some ()
  | _ => none
theorem Da.nonO {K : PySem.W.Frag} {G : Hp} {v : V} {d : D} {u : Unit} (h : Da K G v d) (e : DD.nonO d = some u) : v = .non := by
  cases d with
  | none => cases h; rfl
  | _ => cases e
theorem selfZ_out {c mn : Str} {d : D} {n : Wd} {φ : Unit → Wd → Prop} (h : selfZ c mn d n φ) : ∃ k fs, ownOf d = some k ∧ n.ob[k]? = some (.ins c fs) ∧ fs.lookup mn = none ∧ φ () n := by
  obtain ⟨k, fs, ek, hk, u, hu, p⟩ := clsZ_out (show clsZ c d n (fun fs n' => (Mo.lift (if (fs.lookup mn).isNone = true then some () else none) : Z Unit) n' φ) from h)
  split at hu
  · rename_i z
    exact ⟨k, fs, ek, hk, Option.isNone_iff_eq_none.mp z, p⟩
  · cases hu
section
variable {m : Type → Type} [Mo m] [Calm m] [OverZ m] {X : Cx} {EX : XR} {g : List Sl} {k : Nat} {ps : List Str} {p pos apos : Pos} {c mn : Str} {ob e a : Expr} {es : List Expr} {x : m D} {F : List Sl → m D}
/-- C(..): a new instance; its __init__ runs -/
theorem ej_newZ {y : m (List Sl)} (Fn : MkG X.prog X.w X.K X.mg X.base k c ps (spJ X.K F)) (hr : Room (k + 1) X.A) (gu : X.A.guards = some [])
    (ha : AJ X EX (e :: es) g y) (hg : Gl X c := by rfl) (hd : (c == ("__debug__" : Str)) = false := by decide) (he : starEach (e :: es) X.env = (false, eval e X.env) :: starEach es X.env := by rfl) (hpl : (backTo pos (starEach es X.env)).any (·.1) = false := by rfl) :
    EJ X EX (.Call (.Name c p) (e :: es) [] pos) g (y >>= fun as => OverZ.up (newI c) >>= fun d => F (.val d :: as) >>= fun r => Mo.lift (nonO r) >>= fun _ => pure d) := by
  obtain ⟨C, f, fd, hcl, hm, M, Fn, hb⟩ := Fn.ex
  exact (pe_makeG M Fn hr gu hg hm hb ha hd he hpl).weak fun σ H Q ⟨B, G, n, φ, ξ, o, s, q, xw⟩ => ⟨B, G, n, _, ξ, o, Mo.sat_bind s, fun us H1 G1 as n1 o1 g1 a1 s1 => fun x dx hx hdx hne => by
    have s2 := OverZ.sat_up (Mo.sat_bind s1)
    have s2 : Mo.sat (F (.val (refD n1.ob.length) :: as) >>= fun r => Mo.lift (nonO r) >>= fun _ => pure (refD n1.ob.length)) ⟨n1.n, n1.ob ++ [.ins c []]⟩ φ ξ := s2
    obtain ⟨o2, g2⟩ := o1.insN hx hdx hne hcl
    refine ⟨_, _, B.dk, .val (refD n1.ob.length) :: as, _, .cons (.obj upd_same) (ArgsOk.base (B := B) (B' := ⟨upd (upd H1 dx (.own x)) x (.ins C dx []), upd G1 x (.own n1.ob.length), B.dk, upd G1 x (.own n1.ob.length)⟩) rfl (a1.mono g2)), o2.fm.at_call, Calm.calm (Mo.sat_bind s2), fun v H' G' d' n' f' dv p => ?_⟩
    obtain ⟨u, eu, p⟩ := Mo.sat_lift (Mo.sat_bind p)
    obtain ⟨o3, g3⟩ := Fm.back o2 (.inr rfl) f'
    exact ⟨dv.nonO eu, q _ H' G' _ n' o3 ((g1.trans g2).trans g3) (.obj (g3 _ _ upd_same)) (Mo.sat_pure p)⟩, xw⟩
/-- o.m(..) -/
theorem ej_methZ {pl : Sem Bool} {y : m (List Sl)} (Fn : MthG X.prog X.w X.K X.mg X.base k c mn ps (spJ X.K F)) (hr : Room k X.A) (gu : X.A.guards = some [])
    (ho : EJ X EX ob g x) (ha : AJ X EX (e :: es) g y) (hst : starEach (e :: es) X.env = (false, eval e X.env) :: starEach es X.env := by rfl) (hpl : (backTo pos (starEach es X.env)).any (·.1) = false := by rfl) (ht : MethAt X ob mn apos pos (e :: es) pl := by rfl) :
    EJ X EX (.Call (.Attribute ob mn apos) (e :: es) [] pos) g (x >>= fun d => OverZ.up (selfZ c mn d) >>= fun _ => y >>= fun as => F (.val d :: as)) := by
  obtain ⟨C, f, fd, hcl, hm, Fn, hb⟩ := Fn.ex
  exact (pe_mG ho hcl.cl hm Fn hr gu hb ha hst hpl ht).weak fun σ H Q ⟨B, G, n, φ, ξ, o, s, q, xw⟩ => te_one o s (fun v H1 G1 d n1 o1 g1 d1 s1 => by
    have s2 : selfZ c mn d n1 _ := OverZ.sat_up (Mo.sat_bind s1)
    obtain ⟨k, fs, ek, hk, el, s2⟩ := selfZ_out s2
    obtain ⟨a, C', dx, vs, rfl, ga, ck, ea, hl, da⟩ := o1.insAt d1 ek hk
    obtain rfl := hcl.one ck
    refine ⟨a, dx, vs, rfl, ea, (lkp_da hl da).2 el, B, G1, n1, _, ξ, o1, Mo.sat_bind s2, fun us H2 G2 as n2 o2 g2 a2 s3 => ?_, xw⟩
    refine ⟨G2, n2, B.dk, .val d :: as, φ, .cons (d1.mono g2) (ArgsOk.base (B := B) (B' := ⟨H2, G2, B.dk, G2⟩) rfl a2), o2.fm.at_call, Calm.calm s3, fun v H' G' d' n' f' dv p => ?_⟩
    obtain ⟨o3, g3⟩ := Fm.back o2 (.inr rfl) f'
    exact q v H' G' d' n' o3 ((g1.trans g2).trans g3) dv p) xw
end
end DD
namespace DD
open PySem PySem.Spec PyProof.Rows L2
/-! ### match over texts -/
section
variable {m : Type → Type} [Mo m] {A : Type}
inductive MC (X : Cx) (EX : XR) (g : List Sl) (P : A → List Sl) : List MatchCase → (Str → m (Fl A)) → Prop
  | last {body : List Stmt} {y : m (Fl A)} {p : Pos} : BJ X EX body g y P → MC X EX g P [⟨.MatchAs none none p, none, body⟩] fun _ => y
  | one {c : Str} {k : Nat} {p1 p2 : Pos} {body : List Stmt} {y : m (Fl A)} {rest : List MatchCase} {f : Str → m (Fl A)} : BJ X EX body g y P → MC X EX g P rest f → MC X EX g P (⟨.MatchValue (.Constant (.str c) k p1) p2, none, body⟩ :: rest) fun s => if s = c then y else f s
theorem MC.run {X : Cx} {EX : XR} {g : List Sl} {P : A → List Sl} {cs : List MatchCase} {f : Str → m (Fl A)} (h : MC X EX g P cs f) : ∀ (pins : List (Addr × Obj)) (s : Shared) (σ : L2.St) (H : Hp) (De : Ends) (z : Str) (t : Tok) (b : Bool), Inv X pins σ H s → tbJ X EX g (f z) P De σ H → wpAny (model X.prog X.w) X.A (matchCases cs X.env (.str z t) b) (SP X pins De) X.xe s := by
  induction h with
  | last hb =>
    intro pins s σ H De z t b I q
    refine wpAny_matchCases_cons (wpAny_matchPattern_Capture ?_)
    show wpAny _ _ (pure ()) _ _ _
    exact wpAny_pure (hb.run pins s σ H De I q)
  | @one c k p1 p2 body y rest f hb _ ih =>
    intro pins s σ H De z t b I q
    refine wpAny_matchCases_cons (wpAny_matchPattern_Value (thn ((pe_str (X := X) (j := k) (pos := p1)).run pins s σ H (fun v H1 => v = .str c ∧ H1 = H) I ⟨rfl, rfl⟩) fun u s1 ⟨v, H1, I1, r1, e1, e2⟩ => ?_))
    subst e1 e2
    obtain ⟨t2, rfl⟩ := r1
    refine PyProof.Rows.eq_str (wpAny_truthy_bool ?_)
    by_cases hz : z = c
    · rw [beq_iff_eq.mpr hz, if_pos rfl]
      show wpAny _ _ (pure ()) _ _ _
      have q : tbJ X EX g (if z = c then y else f z) P De σ H1 := q
      rw [if_pos hz] at q
      exact wpAny_pure (hb.run pins s1 σ H1 De I1 q)
    · rw [beq_eq_false_iff_ne.mpr hz, if_neg Bool.false_ne_true]
      have q : tbJ X EX g (if z = c then y else f z) P De σ H1 := q
      rw [if_neg hz] at q
      exact ih pins s1 σ H1 De z t false I1 q
end
/-! ### if (x := e) op c: a block that does not come to its end -/
end DD
namespace DD
open PySem PySem.Spec PyProof.Rows L2
/-! ### pass; {a: i, b: -j}[e]; o.pop() -/
theorem argsHid {K : PySem.W.Frag} {B B' : Bs} {G : Hp} (h : B'.dk = B.dk) : ∀ {vs : List V} {as : List Sl}, ArgsOk K B G vs as → okSl as = true → ArgsOk K B' (hid G) vs as
  | _, _, .nil, _ => .nil
  | _, _, .cons (a := .val d) q r, ok => by
    simp only [okSl, Bool.and_eq_true] at ok
    exact .cons (Da.hid (show Da _ _ _ _ from q) ok.1) (argsHid h r ok.2)
  | _, _, .cons (a := .deck) ⟨a, b, e, ev⟩ r, ok => .cons ⟨a, b, h.trans e, ev⟩ (argsHid h r ok)
  | _, _, .cons (a := .own _) q _, _ => q.elim
  | _, _, .cons (a := .any) q _, _ => q.elim
  | _, _, .cons (a := .exn _ _ _) q _, _ => q.elim
  | _, _, .cons (a := .fn _ _) q _, _ => q.elim
theorem okSl_any : ∀ g : List Sl, okSl (g.map fun _ => Sl.any) = true
  | [] => rfl
  | _ :: g => okSl_any g
theorem noOwns_any (g : List Sl) : noOwns (g.map fun _ => Sl.any) = true := by
  unfold noOwns
  rw [List.all_map, List.all_eq_true]
  intro x _
  rfl
theorem all_any (g : List Sl) : ((g.map fun _ => Sl.any).all fun s => match s with | .any => true | _ => false) = true := by
  rw [List.all_map, List.all_eq_true]
  intro x _
  rfl
section
variable {m m' : Type → Type} [Mo m] [OverZ m] [Mo m'] [Plain m'] [Calm m'] {X : Cx} {EX : XR} {g : List Sl}
/-- f(..), a plain def, of arguments that things that may change have given -/
theorem ej_callH {k : Nat} {ps : List Str} {x : Str} {p pos : Pos} {e : Expr} {es : List Expr} {F : List Sl → m' D} {y : m (List Sl)} (Fn : Def X.prog X.w X.K X.mg X.base k x ps (spJ X.K F)) (hr : Room k X.A) (gu : X.A.guards = some [])
    (ha : AJ X EX (e :: es) g y) (hg : Gl X x := by rfl) (hd : (x == ("__debug__" : Str)) = false := by decide) (he : starEach (e :: es) X.env = (false, eval e X.env) :: starEach es X.env := by rfl) (hpl : (backTo pos (starEach es X.env)).any (·.1) = false := by rfl) :
    EJ X EX (.Call (.Name x p) (e :: es) [] pos) g (y >>= fun as => OverZ.up (hidP as (F as))) := by
  obtain ⟨f, fd, Fn, hm, hk, hb⟩ := Fn.ex
  exact (pe_g Fn hr gu hg hm hk hb ha hd he hpl).weak fun σ H Q ⟨B, G, n, φ, ξ, o, s, q, xw⟩ => ⟨B, G, n, _, ξ, o, Mo.sat_bind s, fun vs H1 G1 as n1 o1 g1 a1 s1 => by
    obtain ⟨hs, sx⟩ := OverZ.sat_up s1
    have oh := o1.hide0 (g' := g.map fun _ => Sl.any) (sub_any (all_any g) (by rw [List.length_map])) (okSl_any g) (noOwns_any g)
    exact ⟨hid G1, ⟨n1.n, []⟩, B.dk, as, _, argsHid (B := B) (B' := ⟨H1, hid G1, B.dk, hid G1⟩) rfl a1 hs, oh.fm, Calm.calm (Plain.plain sx).2, fun v H' G' d n' f' dv ⟨hn, p⟩ => by
      obtain ⟨o2, g2, g3⟩ := hidP_back o1 hn f'
      exact q v H' _ d _ o2 (g1.trans g2) (dv.mono g3) p⟩, xw⟩
end
end DD
namespace DD
open PySem PySem.Spec PyProof.Rows L2
/-! ### reasoning about cells: what a mirror without draws does -/
def Run {α : Type} (x : Z α) (ob : List Cell) (a : α) (ob' : List Cell) : Prop := ∀ (n : Nat) (φ : α → Wd → Prop), φ a ⟨n, ob'⟩ → x ⟨n, ob⟩ φ
section
variable {α β : Type} {ob ob1 ob2 : List Cell} {k : Nat} {c f mn : Str} {v w : D} {ds : List D} {fs : List (Str × D)}
theorem Run.pure {a : α} : Run (Pure.pure a) ob a ob := fun n φ h => h
theorem Run.bind {x : Z α} {f : α → Z β} {a : α} {b : β} (h : Run x ob a ob1) (hf : Run (f a) ob1 b ob2) : Run (x >>= f) ob b ob2 := fun n φ q => h n _ (hf n φ q)
theorem Run.lift {o : Option α} {a : α} (e : o = some a) : Run (Mo.lift o) ob a ob := fun n φ q => ⟨a, e, q⟩
theorem Run.bL {o : Option α} {a : α} {f : α → Z β} {b : β} (e : o = some a) (hf : Run (f a) ob b ob2) : Run ((Mo.lift o : Z α) >>= f) ob b ob2 := (Run.lift e).bind hf
theorem Run.hid {g : List Sl} {o : Option α} {a : α} (hs : okSl g = true) (e : o = some a) : Run (OverZ.up (hidP g o)) ob a ob := fun n φ q => ⟨hs, rfl, a, e, q⟩
theorem run_cls (h : ob[k]? = some (.ins c fs)) : Run (clsZ c (refD k)) ob fs ob := fun n φ q => ⟨k, own_ref k, c, fs, h, fs, if_pos rfl, q⟩
theorem run_attr (h : ob[k]? = some (.ins c fs)) (hf : fs.lookup f = some v) : Run (OverZ.up (attrZ c f (refD k))) ob v ob := (run_cls h).bind (Run.lift hf)
theorem run_self (h : ob[k]? = some (.ins c fs)) (hf : fs.lookup mn = none) : Run (OverZ.up (selfZ c mn (refD k))) ob () ob := (run_cls h).bind (Run.lift (by rw [hf]; rfl))
theorem run_setA (h : ob[k]? = some (.ins c fs)) (hl : fs.length < 900) : Run (OverZ.up (setAZ c f (refD k) v)) ob () (ob.set k (.ins c (putL f v fs))) := fun n φ q => ⟨k, own_ref k, c, fs, h, (), if_pos ⟨rfl, hl⟩, q⟩
theorem run_newI : Run (OverZ.up (newI c)) ob (refD ob.length) (ob ++ [.ins c []]) := fun n φ q => q
theorem celOf_dat {d : D} (h : ∀ kvs, d ≠ .dict kvs) : celOf d = none := by
  cases d with
  | dict kvs => exact absurd rfl (h kvs)
  | _ => rfl
theorem run_ixD {d : D} (h : ∀ kvs, d ≠ .dict kvs) (e : getD d v = some w) : Run (ixZ d v) ob w ob := by
  unfold ixZ
  rw [celOf_dat h]
  exact Run.lift e
/-! with draws -/
def TrA (b : Nat) (ob : List Cell) (x : Z α) (Q : α → List Cell → Prop) : Prop := ∀ (n : Nat) (ψ : α → Wd → Prop), n + b ≤ 2 ^ 40 → (∀ a n' ob', n' ≤ n + b → Q a ob' → ψ a ⟨n', ob'⟩) → x ⟨n, ob⟩ ψ
theorem TrA.run {x : Z α} {a : α} {Q : α → List Cell → Prop} {b : Nat} (h : Run x ob a ob1) (q : Q a ob1) : TrA b ob x Q := fun n ψ _ hq => h n ψ (hq a n ob1 (by omega) q)
theorem TrA.bind {x : Z α} {f : α → Z β} {b c : Nat} {Q : α → List Cell → Prop} {R : β → List Cell → Prop} (h : TrA b ob x Q) (hf : ∀ a ob', Q a ob' → TrA c ob' (f a) R) : TrA (b + c) ob (x >>= f) R := fun n ψ hn q =>
  h n _ (by omega) fun a n' ob' hn' ha => hf a ob' ha n' ψ (by omega) fun a2 n2 ob2 h2 p2 => q a2 n2 ob2 (by omega) p2
theorem TrA.mono {x : Z α} {b c : Nat} {Q R : α → List Cell → Prop} (h : TrA b ob x Q) (hb : b ≤ c) (hp : ∀ a ob', Q a ob' → R a ob') : TrA c ob x R := fun n ψ hn q => h n ψ (by omega) fun a n' ob' hn' ha => q a n' ob' (by omega) (hp a ob' ha)
theorem TrA.le {x : Z α} {b c : Nat} {Q : α → List Cell → Prop} (h : TrA b ob x Q) (hb : b ≤ c) : TrA c ob x Q := h.mono hb fun _ _ z => z
theorem TrA.st {x : Z α} {f : α → Z β} {b d : Nat} {Q : α → List Cell → Prop} {R : β → List Cell → Prop} (h : TrA b ob x Q) (hf : ∀ a ob', Q a ob' → TrA (d - b) ob' (f a) R) (hd : b ≤ d := by decide) : TrA d ob (x >>= f) R := (h.bind hf).le (by omega)
/-- a step without draws -/
theorem TrA.r {x : Z α} {f : α → Z β} {a : α} {b : Nat} {R : β → List Cell → Prop} (h : Run x ob a ob1) (hf : TrA b ob1 (f a) R) : TrA b ob (x >>= f) R := fun n ψ hn q => h n _ (hf n ψ hn q)
theorem TrA.pure {a : α} {Q : α → List Cell → Prop} {b : Nat} (q : Q a ob) : TrA b ob (Pure.pure a) Q := TrA.run Run.pure q
def PostA {A : Type} (I : A → List Cell → Prop) (R : D → Prop) : Fl A → List Cell → Prop
  | .nx a, ob => I a ob
  | .rt d, _ => R d
theorem TrA.sat {x : Z D} {b : Nat} (h : TrA b [] x fun d _ => d = .bool true) (hb : b ≤ 2 ^ 40) : Mo.sat x 0 (fun d _ => d = .bool true) (fun _ _ => False) := h 0 (fun d _ => d = .bool true) (by omega) fun _ _ _ _ z => z
end
end DD
namespace DD
open PySem PySem.Spec PyProof.Rows L2
/-! ### mirrors over worlds that raise -/
def ZX (α : Type) : Type := Wd → (α → Wd → Prop) → (Exn → Wd → Prop) → Prop
instance : Mo ZX where
  pure := fun a n φ _ => φ a n
  bind := fun x f n φ ξ => x n (fun a n' => f a n' φ ξ) ξ
  sat := fun z n φ ξ => z n φ ξ
  lift := fun o n φ _ => ∃ a, o = some a ∧ φ a n
  sat_pure := fun h => h
  sat_bind := fun h => h
  sat_lift := fun ⟨a, e, h⟩ => ⟨a, e, h⟩
instance : OverZ ZX := ⟨fun z n φ _ => z n φ, fun h => h⟩
instance : MoX ZX := ⟨fun e n _ ξ => ξ e n, fun h => h⟩
instance : Up Z ZX := ⟨fun z n φ _ => z n φ, fun h => h⟩
instance : Tr ZX Z := ⟨fun x h n φ => x n φ fun e n' => h e n' φ, fun s => s⟩
abbrev upZ {α : Type} (z : Z α) : ZX α := Up.up (m' := Z) (m := ZX) z
def calmZ {α : Type} (x : ZX α) : Z α := fun n φ => x n φ fun _ _ => False
def hidX {α : Type} (g : List Sl) (x : Xo α) : ZX α := fun n φ ξ => okSl g = true ∧ ((∃ a, x = some (.ok a) ∧ φ a n) ∨ ∃ e, x = some (.error e) ∧ ξ e n)
section
variable {X : Cx} {EX : XR} {g : List Sl}
/-- f(..), a plain def that may raise, of arguments that things that may change have given -/
theorem ej_callHX {k : Nat} {ps : List Str} {x : Str} {p pos : Pos} {e : Expr} {es : List Expr} {F : List Sl → Xo D} {y : ZX (List Sl)} (Fn : DefX X.prog X.w X.K X.mg X.base k x ps (spX X.K X.mg F)) (hr : Room k X.A) (gu : X.A.guards = some []) (tk : L2N.Takes X EX.w) (sb : Sub g EX.g)
    (ha : AJ X EX (e :: es) g y) (hg : Gl X x := by rfl) (hd : (x == ("__debug__" : Str)) = false := by decide) (he : starEach (e :: es) X.env = (false, eval e X.env) :: starEach es X.env := by rfl) (hpl : (backTo pos (starEach es X.env)).any (·.1) = false := by rfl) :
    EJ X EX (.Call (.Name x p) (e :: es) [] pos) g (y >>= fun as => hidX as (F as)) := by
  obtain ⟨f, fd, Fn, hm, hk, hb⟩ := Fn.ex
  exact (pe_x Fn hr gu tk hg hm hk hb ha hd he hpl).weak fun σ H Q ⟨B, G, n, φ, ξ, o, s, q, xw⟩ => ⟨B, G, n, _, ξ, o, Mo.sat_bind s, fun vs H1 G1 as n1 o1 g1 a1 s1 => by
    obtain ⟨hs, sx⟩ := (show okSl as = true ∧ ((∃ a, F as = some (.ok a) ∧ φ a n1) ∨ ∃ e, F as = some (.error e) ∧ ξ e n1) from s1)
    have oh := o1.hide0 (g' := g.map fun _ => Sl.any) (sub_any (all_any g) (by rw [List.length_map])) (okSl_any g) (noOwns_any g)
    have sat : Mo.sat (F as) ⟨n1.n, []⟩ (fun a n' => n' = ⟨n1.n, []⟩ ∧ φ a n1) (fun e n' => n' = ⟨n1.n, []⟩ ∧ ξ e n1) := by
      refine ⟨rfl, ?_⟩
      rcases sx with ⟨a, ea, p⟩ | ⟨e, ee, p⟩
      · exact .inl ⟨a, ea, rfl, p⟩
      · exact .inr ⟨e, ee, rfl, p⟩
    refine ⟨hid G1, ⟨n1.n, []⟩, B.dk, as, _, _, argsHid (B := B) (B' := ⟨H1, hid G1, B.dk, hid G1⟩) rfl a1 hs, oh.fm, sat, fun v H' G' d n' f' dv ⟨hn, p⟩ => ?_, fun e' c od H' G' n' f' ex ⟨hn, p⟩ => ?_⟩
    · subst hn
      obtain ⟨o2, g2, g3⟩ := hidP_back o1 rfl f'
      exact q v H' _ d n1 o2 (g1.trans g2) (dv.mono g3) p
    · subst hn
      obtain ⟨o2, g2, g3⟩ := hidP_back o1 rfl f'
      obtain ⟨C, k1, k2, k3⟩ := ex
      exact xw e' n1 σ H' _ c od p (o2.forget sb) ⟨C, k1, k2, k3.mono g3⟩, xw⟩
end
/-! methods that raise -/
/-! raise C(), C without an __init__ of its own -/
end DD
namespace DD
open PySem PySem.Spec PyProof.Rows L2
/-! ### reasoning about cells: mirrors that raise -/
def RunX {α : Type} (x : ZX α) (ob : List Cell) (a : α) (ob' : List Cell) : Prop := ∀ (n : Nat) (φ : α → Wd → Prop) (ξ : Exn → Wd → Prop), φ a ⟨n, ob'⟩ → x ⟨n, ob⟩ φ ξ
def ThrX {α : Type} (x : ZX α) (ob : List Cell) (e : Exn) (ob' : List Cell) : Prop := ∀ (n : Nat) (φ : α → Wd → Prop) (ξ : Exn → Wd → Prop), ξ e ⟨n, ob'⟩ → x ⟨n, ob⟩ φ ξ
section
variable {α β : Type} {ob ob1 ob2 : List Cell} {e : Exn}
theorem Run.rx {x : Z α} {a : α} (h : Run x ob a ob1) : RunX (upZ x) ob a ob1 := fun n φ ξ q => h n φ q
theorem RunX.pure {a : α} : RunX (Pure.pure a) ob a ob := fun n φ ξ h => h
theorem RunX.bind {x : ZX α} {f : α → ZX β} {a : α} {b : β} (h : RunX x ob a ob1) (hf : RunX (f a) ob1 b ob2) : RunX (x >>= f) ob b ob2 := fun n φ ξ q => h n _ ξ (hf n φ ξ q)
theorem RunX.lift {o : Option α} {a : α} (e : o = some a) : RunX (Mo.lift o) ob a ob := fun n φ ξ q => ⟨a, e, q⟩
theorem RunX.bU {x : Z α} {f : α → ZX β} {a : α} {b : β} (h : Run x ob a ob1) (hf : RunX (f a) ob1 b ob2) : RunX (upZ x >>= f) ob b ob2 := h.rx.bind hf
theorem ThrX.throw : ThrX (MoX.throw e : ZX α) ob e ob := fun n φ ξ h => h
theorem ThrX.here {x : ZX α} {f : α → ZX β} (h : ThrX x ob e ob1) : ThrX (x >>= f) ob e ob1 := fun n φ ξ q => h n _ ξ q
theorem RunX.thr {x : ZX α} {f : α → ZX β} {a : α} (h : RunX x ob a ob1) (hf : ThrX (f a) ob1 e ob2) : ThrX (x >>= f) ob e ob2 := fun n φ ξ q => h n _ ξ (hf n φ ξ q)
theorem ThrX.bU {x : Z α} {f : α → ZX β} {a : α} (h : Run x ob a ob1) (hf : ThrX (f a) ob1 e ob2) : ThrX (upZ x >>= f) ob e ob2 := h.rx.thr hf
theorem RunX.hid {g : List Sl} {x : Xo α} {a : α} (hs : okSl g = true) (e : x = some (.ok a)) : RunX (hidX g x) ob a ob := fun n φ ξ q => ⟨hs, .inl ⟨a, e, q⟩⟩
theorem ThrX.hid {g : List Sl} {x : Xo α} (hs : okSl g = true) (h : x = some (.error e)) : ThrX (hidX g x) ob e ob := fun n φ ξ q => ⟨hs, .inr ⟨e, h, q⟩⟩
theorem RunX.calm {x : ZX α} {a : α} (h : RunX x ob a ob1) : Run (calmZ x) ob a ob1 := fun n φ q => h n φ _ q
theorem RunX.try_ {x : ZX α} {a : α} {H : Exn → Z α} (h : RunX x ob a ob1) : Run (Tr.try_ x H) ob a ob1 := fun n φ q => h n φ _ q
theorem ThrX.try_ {x : ZX α} {a : α} {H : Exn → Z α} (h : ThrX x ob e ob1) (hh : Run (H e) ob1 a ob2) : Run (Tr.try_ x H) ob a ob2 := fun n φ q => h n φ _ (hh n φ q)
theorem TrA.calm {x : ZX α} {a : α} {f : α → Z β} {b : Nat} {R : β → List Cell → Prop} (h : RunX x ob a ob1) (hf : TrA b ob1 (f a) R) : TrA b ob (calmZ x >>= f) R := TrA.r h.calm hf
/-- what a mirror that raises does: the value and the cells, or the error, the cells as they were -/
def OutX (x : ZX α) (ob : List Cell) : Except Exn (α × List Cell) → Prop
  | .ok (a, ob') => RunX x ob a ob'
  | .error e => ThrX x ob e ob
theorem OutX.bind {x : ZX α} {f : α → ZX β} {a : α} {r : Except Exn (β × List Cell)} (h : RunX x ob a ob) (hf : OutX (f a) ob r) : OutX (x >>= f) ob r := by
  cases r with
  | ok p => exact h.bind hf
  | error e => exact h.thr hf
end
/-! two steps in order, for binds in Z written with the monad's own bind -/
section
variable {m : Type → Type}
theorem zx_assoc {α β γ : Type} (x : ZX α) (f : α → ZX β) (g : β → ZX γ) : (x >>= f) >>= g = x >>= fun a => f a >>= g := rfl
theorem zx_pure {α β : Type} (a : α) (f : α → ZX β) : (Pure.pure a >>= f) = f a := rfl
theorem zx_some {α β : Type} (a : α) (f : α → ZX β) : ((Mo.lift (some a) : ZX α) >>= f) = f a := by
  funext n φ ξ
  exact propext ⟨fun ⟨b, e, h⟩ => by cases e; exact h, fun h => ⟨a, rfl, h⟩⟩
theorem upz_pure {α : Type} (a : α) : (upZ (Pure.pure a) : ZX α) = Pure.pure a := rfl
end
end DD
namespace DD
open PySem PySem.Spec PyProof.Rows L2
/-! ### a, b = a tuple or a list -/
def pairA : D → Option (D × D)
  | .tuple [a, b] => some (a, b)
  | .list [a, b] => some (a, b)
  | _ => none
def tripA : D → Option (D × D × D)
  | .tuple [a, b, c] => some (a, b, c)
  | .list [a, b, c] => some (a, b, c)
  | _ => none
def quadA : D → Option (D × D × D × D)
  | .tuple [a, b, c, d] => some (a, b, c, d)
  | .list [a, b, c, d] => some (a, b, c, d)
  | _ => none
section
variable {m : Type → Type} [Mo m] {X : Cx} {EX : XR} {g : List Sl}
abbrev unp2A (x : m D) : m (D × D) := x >>= fun d => Mo.lift (pairA d)
abbrev unp3A (x : m D) : m (D × D × D) := x >>= fun d => Mo.lift (tripA d)
abbrev unp4A (x : m D) : m (D × D × D × D) := x >>= fun d => Mo.lift (quadA d)
theorem sj_unp2A (i j : Nat) {elts : List Expr} {kk : Nat} {tpos : Pos} {e : Expr} {pos : Pos} {x : m D} (h : EJ X EX e g x) (h1t : PG X (.Tuple elts kk tpos) (gTup X.K 2 (gCons (gName i) (gCons (gName j) gNil)))) (h1l : PG X (.Tuple elts kk tpos) (gUnl X.K 2 (gCons (gName i) (gCons (gName j) gNil))))
    (hs : swapsWithSole [.Tuple elts kk tpos] e pos.line X.env = pure false := by kernel_rfl) (hw : swappedStores [.Tuple elts kk tpos] e X.env = pure none := by kernel_rfl)
    (h1 : (assignEach [.Tuple elts kk tpos] X.env).map (·.2) = [assign (.Tuple elts kk tpos) X.env] := by rfl) : SJ X EX (.Assign [.Tuple elts kk tpos] e pos) g (unp2A x) (fun de => (g.set i (.val de.1)).set j (.val de.2)) := by
  have hor : PG X (.Tuple elts kk tpos) (fun v σ H Q => gTup X.K 2 (gCons (gName i) (gCons (gName j) gNil)) v σ H Q ∨ gUnl X.K 2 (gCons (gName i) (gCons (gName j) gNil)) v σ H Q) :=
    ⟨fun pins s σ H v u Q I r hw => hw.elim (fun hw => h1t.run pins s σ H v u Q I r hw) fun hw => h1l.run pins s σ H v u Q I r hw⟩
  refine (ps_asg h hor hs hw h1).weak fun De σ H ⟨B, G, n, φ, ξ, o, s, q, xw⟩ => te_one o s (fun v H1 G1 d n1 o1 g1 d1 s1 => ?_) xw
  obtain ⟨de, ed, pd⟩ := Mo.sat_lift s1
  unfold pairA at ed
  split at ed
  · cases ed
    cases d1 with
    | tup h da =>
        cases da with
        | cons e1 da =>
          cases da with
          | cons e2 da =>
            cases da
            exact .inl ⟨_, _, rfl, sameT o1.fm.sub h, rfl, _, _, rfl, _, _, rfl, rfl, q _ _ _ G1 n1 ((o1.setV e1).setV e2) g1 pd⟩
  · cases ed
    cases d1 with
    | lst h da =>
        cases da with
        | cons e1 da =>
          cases da with
          | cons e2 da =>
            cases da
            exact .inr ⟨_, _, rfl, .of (o1.fm.sub.h _ _ h rfl), rfl, _, _, rfl, _, _, rfl, rfl, q _ _ _ G1 n1 ((o1.setV e1).setV e2) g1 pd⟩
  · cases ed
end
end DD
namespace DD
open PySem PySem.Spec PyProof.Rows L2
/-! ### try: body, several clauses: except C as n, except (C, C2) as n -/
/-- the test of a clause -/
inductive ClT (X : Cx) : Expr → List Value → Prop
  | one {x : Str} {c : Value} {p : Pos} : Names X x c → ClT X (.Name x p) [c]
  | two {x1 x2 : Str} {c1 c2 : Value} {p1 p2 p : Pos} {j : Nat} : Names X x1 c1 → Names X x2 c2 → ClT X (.Tuple [.Name x1 p1, .Name x2 p2] j p) [c1, c2]
  | three {x1 x2 x3 : Str} {c1 c2 c3 : Value} {p1 p2 p3 p : Pos} {j : Nat} : Names X x1 c1 → Names X x2 c2 → Names X x3 c3 → ClT X (.Tuple [.Name x1 p1, .Name x2 p2, .Name x3 p3] j p) [c1, c2, c3]
  | four {x1 x2 x3 x4 : Str} {c1 c2 c3 c4 : Value} {p1 p2 p3 p4 p : Pos} {j : Nat} : Names X x1 c1 → Names X x2 c2 → Names X x3 c3 → Names X x4 c4 → ClT X (.Tuple [.Name x1 p1, .Name x2 p2, .Name x3 p3, .Name x4 p4] j p) [c1, c2, c3, c4]
/-- what a clause's name holds behind its suite: nothing -/
def off (i : Nat) (De : Ends) : Ends := { nx := fun τ H => De.nx (τ.set i none) H, rt := De.rt, bk := fun τ H => De.bk (τ.set i none) H, ct := fun τ H => De.ct (τ.set i none) H }
abbrev Cls : Type := List Value × Nat × (Addr → Value → Option Addr → TS)
inductive HdL (X : Cx) : List ExceptHandler → List Cls → Prop
  | nil : HdL X [] []
  | cons {te : Expr} {cs : List Value} {n : Str} {i : Nat} {ts : Addr → Value → Option Addr → TS} {b0 : Stmt} {bs : List Stmt} {p : Pos} {hds : List ExceptHandler} {l : List Cls} (t : ClT X te cs) (hi : X.N[i]? = some n) (hl : X.env.kindOf n = some .local)
      (su : ∀ (a : Addr) (ob : Obj) (cls : Value) (d : Option Addr) (pn : List (Addr × Obj)), L2N.Zn cls d ob → (∃ vs, ob.data = .fields vs) → PSs (X.suite a ((a, ob) :: pn)) (b0 :: bs) (ts a cls d)) (r : HdL X hds l) :
      HdL X (.ExceptHandler (some te) (some n) (b0 :: bs) p :: hds) ((cs, i, ts) :: l)
end DD
namespace DD
open PySem PySem.Spec PyProof.Rows L2
/-! ### mirrors of try with several clauses -/
section
variable {m₁ m : Type → Type} [Mo m₁] [Mo m] [Tr m₁ m] {A : Type} {X : Cx} {EX : XR} {g gk : List Sl}
inductive HdJ (X : Cx) (i : Nat) (gk : List Sl) (h : Exn → m (Fl A)) (P : A → List Sl) : List ExceptHandler → List (List Value) → Prop
  | nil : HdJ X i gk h P [] []
  | cons {te : Expr} {cs : List Value} {n : Str} {b0 : Stmt} {bs : List Stmt} {p : Pos} {hds : List ExceptHandler} {css : List (List Value)} (t : ClT X te cs) (hi : X.N[i]? = some n) (hl : X.env.kindOf n = some .local)
      (su : ∀ (e : Exn) (a : Addr) (oe : Obj) (od : Option Addr) (C : Addr) (pn : List (Addr × Obj)), Held X e a oe od C → PySem.W.exmAny X.K (.ref C) cs = some true → BJ (X.suite a ((a, oe) :: pn)) X0 (b0 :: bs) (gk.set i (.exn a od e.fs)) (h e) P) (r : HdJ X i gk h P hds css) :
      HdJ X i gk h P (.ExceptHandler (some te) (some n) (b0 :: bs) p :: hds) (cs :: css)
def tsJ2 (X : Cx) (i : Nat) (gk : List Sl) (h : Exn → m (Fl A)) (P : A → List Sl) (cs : List Value) : Addr → Value → Option Addr → TS := fun a cls od De σ H =>
  ∃ t : { t : Exn × Addr // X.mg t.1.cls = some (.ref t.2) ∧ cls = .ref t.2 ∧ PySem.W.exmAny X.K cls cs = some true }, tbJ X X0 (gk.set i (.exn a od t.1.1.fs)) (h t.1.1) P De σ H
theorem HdJ.list {i : Nat} {h : Exn → m (Fl A)} {P : A → List Sl} : ∀ {hds : List ExceptHandler} {css : List (List Value)}, HdJ X i gk h P hds css → HdL X hds (css.map fun cs => (cs, i, tsJ2 X i gk h P cs))
  | _, _, .nil => .nil
  | _, _, .cons t hi hl su r => .cons t hi hl (fun a ob cls od pn hz hd => pss_any fun t => by
    obtain ⟨⟨e, C⟩, h1, h2, h3⟩ := t
    dsimp only at h1 h2
    subst h2
    exact su e a ob od C pn ⟨h1, hz, hd⟩ h3) r.list
end
/-! x.pop(), x a list of one's own -/
end DD
namespace DD
open PySem PySem.Spec PyProof.Rows L2
/-! ### try whose body raises nothing; finally -/
/-! ### isinstance(x, (list, tuple)) -/
/-! ### a dict of the module: texts to ints -/
def cellE (e : DictEntry) : Option ((Str × Int) × Int) := match e.key, e.val with
  | .str x _, .int i _ => some ((x, e.hash), i)
  | _, _ => none
def tabW (K : PySem.W.Frag) (a : Addr) : Option (List (Option ((Str × Int) × Int))) := match K.lookup a with
  | some ⟨.type c, none, .dict es _, sl⟩ => (match decide (c = "dict") && (sl.isEmpty && !(a == sysModules)) with
    | true => some (es.toList.map cellE)
    | false => none)
  | _ => none
def tabIn (P : Params) (kvs : List (Str × Int)) : List (Option ((Str × Int) × Int)) := kvs.map fun p => some ((p.1, PyData.keyHash P p.1), p.2)
structure TabK (K : PySem.W.Frag) (w : World) (a : Addr) (kvs : List (Str × Int)) : Prop where
  ex : ∃ es n, K.lookup a = some ⟨.type "dict", none, .dict es n, #[]⟩ ∧ PySem.W.KeysLit w.params es.toList ∧ (a == sysModules) = false ∧
    ∀ x, (∀ i, kvs.lookup x = some i → ∃ t, findBy Value.isStrOf es x = some (.int i t)) ∧ (kvs.lookup x = none → findBy Value.isStrOf es x = none)
theorem cellE_some {e : DictEntry} {x : Str} {h i : Int} (q : cellE e = some ((x, h), i)) : (∃ t, e.key = .str x t) ∧ e.hash = h ∧ ∃ t, e.val = .int i t := by
  unfold cellE at q
  split at q
  · rename_i x' t' i' t2 h1 h2
    cases q
    exact ⟨⟨_, h1⟩, rfl, _, h2⟩
  · cases q
theorem tab_lit {P : Params} : ∀ {l : List DictEntry} {kvs : List (Str × Int)}, l.map cellE = tabIn P kvs → PySem.W.KeysLit P l
  | [], _, _ => trivial
  | e :: r, [], h => by cases h
  | e :: r, p :: ks, h => by
    have h1 : cellE e :: r.map cellE = some ((p.1, PyData.keyHash P p.1), p.2) :: tabIn P ks := h
    injection h1 with h2 h3
    obtain ⟨⟨t, h4⟩, h5, _⟩ := cellE_some h2
    exact ⟨⟨_, t, h4, h5⟩, tab_lit h3⟩
theorem tab_find {P : Params} (x : Str) : ∀ {l : List DictEntry} {kvs : List (Str × Int)}, l.map cellE = tabIn P kvs →
    (∀ i, kvs.lookup x = some i → ∃ t, (l.find? fun d => d.key.isStr x).map (·.val) = some (.int i t)) ∧ (kvs.lookup x = none → (l.find? fun d => d.key.isStr x).map (·.val) = none)
  | [], [], _ => ⟨fun i h => (by cases h), fun _ => rfl⟩
  | [], _ :: _, h => by cases h
  | e :: r, [], h => by cases h
  | e :: r, (k, j) :: ks, h => by
    have h1 : cellE e :: r.map cellE = some ((k, PyData.keyHash P k), j) :: tabIn P ks := h
    injection h1 with h2 h3
    obtain ⟨⟨t, h4⟩, _, t2, h6⟩ := cellE_some h2
    have ih := tab_find x h3
    have hk : e.key.isStr x = (x == k) := by
      rw [h4]
      show (k == x) = (x == k)
      exact Bool.beq_comm
    rw [List.find?_cons, List.lookup_cons, hk]
    cases hx : x == k with
    | true =>
      refine ⟨fun i hi => ?_, fun hi => (by cases hi)⟩
      cases hi
      exact ⟨t2, by rw [← h6]; rfl⟩
    | false => exact ih
theorem TabK.of {K : PySem.W.Frag} {w : World} {a : Addr} {kvs : List (Str × Int)} (h : tabW K a = some (tabIn w.params kvs)) : TabK K w a kvs := by
  unfold tabW at h
  split at h
  · rename_i c es n sl hl
    split at h
    · rename_i hz
      have hz := hz
      simp only [Bool.and_eq_true, decide_eq_true_eq, Bool.not_eq_true'] at hz
      obtain ⟨z1, z2, z3⟩ := hz
      have e2 : sl = #[] := Array.isEmpty_iff.mp z2
      subst z1 e2
      have h := Option.some.inj h
      refine ⟨es, n, hl, tab_lit h, z3, fun x => ?_⟩
      have := tab_find x h
      have ef : findBy Value.isStrOf es x = (es.toList.find? fun d => d.key.isStr x).map (·.val) := by
        obtain ⟨l⟩ := es
        unfold findBy
        have q : (fun d : DictEntry => Value.isStrOf x d.key) = fun d => d.key.isStr x := funext fun d => (PySem.W.isStr_of x d.key).symm
        rw [List.find?_toArray, q]
      rw [ef]
      exact this
    · cases h
  · cases h
/-! ### o.m(a, ..), the last parameters by their defaults -/
theorem ArgsOk.app {K : PySem.W.Frag} {B : Bs} {G : Hp} : ∀ {vs : List V} {as : List Sl} {ws : List V} {bs : List Sl}, ArgsOk K B G vs as → ArgsOk K B G ws bs → ArgsOk K B G (vs ++ ws) (as ++ bs)
  | [], [], _, _, _, h => h
  | _ :: _, _ :: _, _, _, .cons a r, h => .cons a (r.app h)
/-! ### range(a, -1, -1) -/
end DD
/-! == of two instances that change, by their class's own __eq__; isinstance of their class -/
/-! for in a generator's body -/
namespace DD
open PySem PySem.Spec PyProof.Rows L2 GenW
open Sem (wp)
/-! ### defs whose calls ask nothing of the stack's guards (a generator may be woken anywhere) -/
/-! ### generator methods -/
section
variable {X : Cx} {st : Stmt} {rest : List Stmt}
theorem _root_.L2.GSs.weak {t t' : TGn} (h : GSs X rest t) (w : ∀ D ys σ H, t' D ys σ H → t D ys σ H) : GSs X rest t' := ⟨fun A S ip R n ys s₀ c fs K J gd lv s σ H D gc hn k hI ht => h.run A S ip R n ys s₀ c fs K J gd lv s σ H D gc hn k hI (w _ _ _ _ ht)⟩
end
end DD
/-! classmethods that raise; class constants through an instance; isinstance of another class -/
/-! if a or (x := e) op c; for a, (b, c) in .. -/
namespace DD
open PySem PySem.Spec PyProof.Rows L2
/-! ### a, *b = l of a list -/
namespace UnL
open StX
end UnL
open UnL
/-! ### defs with a deck that raise -/
/-! ### triples of mirrors that may raise, but do not -/
def TrX {α : Type} (b : Nat) (ob : List Cell) (x : ZX α) (Q : α → List Cell → Prop) : Prop := ∀ (n : Nat) (ψ : α → Wd → Prop) (ξ : Exn → Wd → Prop), n + b ≤ 2 ^ 40 → (∀ a n' ob', n' ≤ n + b → Q a ob' → ψ a ⟨n', ob'⟩) → x ⟨n, ob⟩ ψ ξ
section
variable {α β : Type} {ob ob1 : List Cell}
theorem TrX.run {x : ZX α} {a : α} {Q : α → List Cell → Prop} {b : Nat} (h : RunX x ob a ob1) (q : Q a ob1) : TrX b ob x Q := fun n ψ ξ _ hq => h n ψ ξ (hq a n ob1 (by omega) q)
theorem TrX.bind {x : ZX α} {f : α → ZX β} {b c : Nat} {Q : α → List Cell → Prop} {R : β → List Cell → Prop} (h : TrX b ob x Q) (hf : ∀ a ob', Q a ob' → TrX c ob' (f a) R) : TrX (b + c) ob (x >>= f) R := fun n ψ ξ hn q =>
  h n _ ξ (by omega) fun a n' ob' hn' ha => hf a ob' ha n' ψ ξ (by omega) fun a2 n2 ob2 h2 p2 => q a2 n2 ob2 (by omega) p2
theorem TrX.mono {x : ZX α} {b c : Nat} {Q R : α → List Cell → Prop} (h : TrX b ob x Q) (hb : b ≤ c) (hp : ∀ a ob', Q a ob' → R a ob') : TrX c ob x R := fun n ψ ξ hn q => h n ψ ξ (by omega) fun a n' ob' hn' ha => q a n' ob' (by omega) (hp a ob' ha)
theorem TrX.le {x : ZX α} {b c : Nat} {Q : α → List Cell → Prop} (h : TrX b ob x Q) (hb : b ≤ c) : TrX c ob x Q := h.mono hb fun _ _ z => z
theorem TrX.st {x : ZX α} {f : α → ZX β} {b d : Nat} {Q : α → List Cell → Prop} {R : β → List Cell → Prop} (h : TrX b ob x Q) (hf : ∀ a ob', Q a ob' → TrX (d - b) ob' (f a) R) (hd : b ≤ d := by decide) : TrX d ob (x >>= f) R := (h.bind hf).le (by omega)
theorem TrX.pure {a : α} {Q : α → List Cell → Prop} {b : Nat} (q : Q a ob) : TrX b ob (Pure.pure a) Q := TrX.run RunX.pure q
theorem TrX.up {x : Z α} {b : Nat} {Q : α → List Cell → Prop} (h : TrA b ob x Q) : TrX b ob (upZ x) Q := fun n ψ ξ hn q => h n ψ hn q
end
end DD
/-! super().m(..) in a method of a class of one's own -/
namespace DD
open PySem PySem.Spec PyProof.Rows L2 ClX NdefX
/-! ### judgements at the frame's own code -/
/-! ### a def that captures its class -/
theorem ArgsOk.snoc {K : PySem.W.Frag} {B : Bs} {G : Hp} {v : V} {a : Sl} (h : ArgOk K B G v a) : ∀ {vs : List V} {as : List Sl}, ArgsOk K B G vs as → ArgsOk K B G (vs ++ [v]) (as ++ [a])
  | _, _, .nil => .cons h .nil
  | _, _, .cons x r => .cons x (ArgsOk.snoc h r)
/-! ### C.m(self, ..): a def read off its class -/
/-! ### one of two mirrors -/
class OrM (m : Type → Type) [Mo m] where
  or : {α : Type} → m α → m α → m α
  sat_or : ∀ {α : Type} {x y : m α} {n : Wd} {φ : α → Wd → Prop} {ξ : Exn → Wd → Prop}, Mo.sat (or x y) n φ ξ → Mo.sat x n φ ξ ∨ Mo.sat y n φ ξ
instance : OrM Z := ⟨fun x y n φ => x n φ ∨ y n φ, fun h => h⟩
instance : OrM ZX := ⟨fun x y n φ ξ => x n φ ξ ∨ y n φ ξ, fun h => h⟩
end DD
/-! defs that an except suite calls with the error -/
namespace DD
open PySem PySem.Spec PyProof.Rows L2
theorem start_one {N : List Str} {v : V} : start N [v] = some v :: List.replicate (N.length - 1) none := rfl
theorem RoomH.of {A : Around} {j k : Nat} (r : Room k A) (h : j ≤ k) : L2H.RoomH j A := (L2H.roomH_of r).mono h
end DD
/-! enumerate(zip(a, b)) -/
/-! an instance is called -/
namespace DD
open PySem PySem.Spec PyProof.Rows L2
/-! the slots told as one list (for the slots of a comprehension) -/
section
variable {m : Type → Type} [Mo m] {X : Cx} {EX : XR} {g : List Sl} {e tg : Expr}
theorem ej_onG {x : m D} (gx : List Sl) (h : EJ X EX e gx x) (hg : g = gx := by kernel_rfl) : EJ X EX e g x := hg ▸ h
end
end DD
/-! defs of data that an except suite calls; == of any data there -/
/-! == of instances of two classes, one below the other; super().m() within a display -/
/-! texts: upper, replace with a count (which wants a token that is out) -/
namespace DD
open PySem PySem.Spec PyProof.Rows L2
/-! ### a tree that gives out a token -/
def Bump {α : Type} (t : Sem α) : Prop := ∀ (M : Model) (Γ : PySem.Ctx) (Q : α → Pos → Shared → Prop) (E : Value → Pos → Shared → Prop) (p : Pos) (s : Shared), Sem.wp M Γ t Q E p s → Sem.wp M Γ t (fun a p' s' => 1 ≤ s'.toks ∧ Q a p' s') E p s
section
variable {env : Env} {pos cpos : Pos} {x : Str} {j : Nat} {l r e : Expr} {op : Operator} {es : List Expr}
theorem Bump.any {α : Type} {t : Sem α} (h : Bump t) {M : Model} {A : Around} {Q : α → Shared → Prop} {E : Value → Shared → Prop} {s : Shared} (w : wpAny M A t Q E s) : wpAny M A t (fun a s' => 1 ≤ s'.toks ∧ Q a s') E s := fun Γ p hΓ => h M Γ _ _ p s (w Γ p hΓ)
end
/-! ### e.upper() -/
/-! ### e.replace(y, z, 1) -/
/-! ### judgements where a token is out -/
section
variable {m : Type → Type} [Mo m] {A A' : Type} {X : Cx} {EX : XR} {g : List Sl}
theorem _root_.L2.PET.weak {e : Expr} {t t' : TE} (h : L2.PET X e t) (w : ∀ σ H Q, t' σ H Q → t σ H Q) : L2.PET X e t' := fun pins s σ H Q h0 I q => h pins s σ H Q h0 I (w σ H Q q)
end
/-! ### a sign eight times -/
end DD
/-! for a, b in zip(x, y) within an except suite; the walk returns before its end -/
namespace DD
open PySem PySem.Spec PyProof.Rows L2
theorem _root_.L2H.PIH.weak {X : Cx} {tg e : Expr} {t t' : TI} (h : L2H.PIH X tg e t) (w : ∀ σ H R, t' σ H R → t σ H R) : L2H.PIH X tg e t' := ⟨fun pins s σ H R I q => h.run pins s σ H R I (w _ _ _ q)⟩
end DD
namespace DD
open PySem PySem.Spec PyProof.Rows L2
/-! ### dicts from stocks to ints: keys -/
def kR (r : List Int) : NestedKey := .tup (r.map .num)
def kT (S : List (List Int)) : NestedKey := .tup (S.map kR)
theorem num_inj : ∀ {r q : List Int}, r.map NestedKey.num = q.map NestedKey.num → r = q
  | [], [], _ => rfl
  | [], _ :: _, h => by cases h
  | _ :: _, [], h => by cases h
  | x :: r, y :: q, h => by
    rw [List.map_cons, List.map_cons] at h
    injection h with h1 h2
    injection h1 with h1
    rw [h1, num_inj h2]
theorem kR_inj {r q : List Int} (h : kR r = kR q) : r = q := by
  unfold kR at h
  injection h with h
  exact num_inj h
theorem kRs_inj : ∀ {S T : List (List Int)}, S.map kR = T.map kR → S = T
  | [], [], _ => rfl
  | [], _ :: _, h => by cases h
  | _ :: _, [], h => by cases h
  | x :: r, y :: q, h => by
    rw [List.map_cons, List.map_cons] at h
    injection h with h1 h2
    rw [kR_inj h1, kRs_inj h2]
theorem kT_inj {S T : List (List Int)} (h : kT S = kT T) : S = T := by
  unfold kT at h
  injection h with h
  exact kRs_inj h
theorem num_hashes (w : World) : ∀ r : List Int, NestedKey.hashes w (r.map .num) = r.map hashInt
  | [] => rfl
  | x :: r => by
    show NestedKey.hash w (.num x) :: NestedKey.hashes w (r.map .num) = _
    rw [num_hashes w r]
    rfl
theorem kR_hash (w : World) (r : List Int) : (kR r).hash w = hashR r := by
  show reduceHash (Builtin.Tuple.tupleHashOf (NestedKey.hashes w (r.map .num))) = _
  rw [num_hashes]
  rfl
theorem kR_hashes (w : World) : ∀ S : List (List Int), NestedKey.hashes w (S.map kR) = S.map hashR
  | [] => rfl
  | x :: r => by
    show NestedKey.hash w (kR x) :: NestedKey.hashes w (r.map kR) = _
    rw [kR_hashes w r, kR_hash]
    rfl
theorem kT_hash (w : World) (S : List (List Int)) : (kT S).hash w = hashS S := by
  show reduceHash (Builtin.Tuple.tupleHashOf (NestedKey.hashes w (S.map kR))) = _
  rw [kR_hashes]
  rfl
theorem num_depths : ∀ r : List Int, NestedKey.depthAll (r.map .num) = 0
  | [] => rfl
  | x :: r => by
    show max (NestedKey.depth (.num x)) (NestedKey.depthAll (r.map .num)) = 0
    rw [num_depths r]
    rfl
theorem kR_depths : ∀ S : List (List Int), NestedKey.depthAll (S.map kR) ≤ 1
  | [] => Nat.zero_le _
  | x :: r => by
    show max (NestedKey.depth (kR x)) (NestedKey.depthAll (r.map kR)) ≤ 1
    have h1 : NestedKey.depth (kR x) = 1 := by
      show NestedKey.depthAll (x.map .num) + 1 = 1
      rw [num_depths]
    have h2 := kR_depths r
    omega
theorem kT_depth (S : List (List Int)) : (kT S).depth ≤ 8 := by
  show NestedKey.depthAll (S.map kR) + 1 ≤ 8
  have := kR_depths S
  omega
/-- a dict's entries as the kit tells them -/
def up1 (p : List (List Int) × Addr × Value) : NestedKey × Addr × Value := (kT p.1, p.2)
theorem up_keys (xs : List (List (List Int) × Addr × Value)) : (xs.map up1).map (·.1) = (xs.map (·.1)).map kT := by
  rw [List.map_map, List.map_map]; rfl
theorem up_nodup {xs : List (List (List Int) × Addr × Value)} (h : (xs.map (·.1)).Nodup) : ((xs.map up1).map (·.1)).Nodup := by
  rw [up_keys]
  exact List.Pairwise.map kT (fun a b hab e => hab (kT_inj e)) h
theorem dn_nodup {xs : List (List (List Int) × Addr × Value)} (h : ((xs.map up1).map (·.1)).Nodup) : (xs.map (·.1)).Nodup := by
  rw [up_keys] at h
  exact List.Pairwise.of_map kT (fun a b hab e => hab (by rw [e])) h
theorem up_at (S : List (List Int)) : ∀ xs : List (List (List Int) × Addr × Value), atKey (xs.map up1) (kT S) = atKey xs S
  | [] => rfl
  | x :: xs => by
    have ih := up_at S xs
    unfold atKey at ih ⊢
    rw [List.map_cons, List.find?_cons, List.find?_cons]
    by_cases h : x.1 = S
    · have h2 : (up1 x).1 = kT S := by show kT x.1 = _; rw [h]
      rw [decide_eq_true h, decide_eq_true h2]
      rfl
    · have h2 : ¬ (up1 x).1 = kT S := fun e => h (kT_inj e)
      rw [decide_eq_false h, decide_eq_false h2]
      exact ih
theorem up_stored (xs : List (List (List Int) × Addr × Value)) (S : List (List Int)) (b : Addr) (v : Value) : storedH (xs.map up1) (kT S) b v = (storedH xs S b v).map up1 := by
  unfold storedH
  rw [up_at]
  split
  · rw [List.map_map, List.map_map]
    refine List.map_congr_left fun x _ => ?_
    show putAt (kT S) v (up1 x) = up1 (putAt S v x)
    unfold putAt
    by_cases h : x.1 = S
    · rw [if_pos h, if_pos (show (up1 x).1 = kT S by show kT x.1 = _; rw [h])]
      rfl
    · rw [if_neg h, if_neg (show ¬ (up1 x).1 = kT S from fun e => h (kT_inj e))]
  · rw [List.map_append]
    rfl
section
variable {X : Cx} {pins : List (Addr × Obj)} {σ : L2.St} {H : Hp} {s : Shared} {a b : Addr} {S : List (List Int)} {xs : List (List (List Int) × Addr × Value)}
theorem nums_is {h : Heap} {G : Hp} {K : PySem.W.Frag} : ∀ {r : List Int} {vs : List V} {us : List Value}, DaAll K G vs (r.map .int) → Vals vs us → NestedAll h (r.map .num) us
  | [], _, _, .nil, .nil => .nil
  | x :: r, _, _, .cons d t, .cons rv rt => by
    cases d
    obtain ⟨tk, rfl⟩ := (show ∃ t, _ = Value.int x t from rv)
    exact .cons (.int x tk) (nums_is t rt)
theorem row_is (I : Inv X pins σ H s) {r : List Int} {v : V} {u : Value} (h : Da X.K H v (.tuple (r.map .int))) (rv : RelV v u) : NestedIs s.heap (kR r) u := by
  cases h with
  | tup h1 h2 =>
    obtain ⟨its, q, ⟨o, e1, e2, n, e3⟩, _⟩ := I.tuple h1
    obtain rfl : u = Value.ref _ := rv
    exact .tup e1 e2 e3 (nums_is h2 (by simpa using q))
theorem rows_is (I : Inv X pins σ H s) : ∀ {S : List (List Int)} {vs : List V} {us : List Value}, DaAll X.K H vs (S.map fun r => .tuple (r.map .int)) → Vals vs us → NestedAll s.heap (S.map kR) us
  | [], _, _, .nil, .nil => .nil
  | x :: r, _, _, .cons d t, .cons rv rt => .cons (row_is I d rv) (rows_is I t rt)
theorem stk_is (I : Inv X pins σ H s) (h : Da X.K H (.ref b) (kS S)) : (nestedKind X.prog X.w).is s.heap (kT S) b := by
  refine ⟨?_, kT_depth S⟩
  cases h with
  | tup h1 h2 =>
    obtain ⟨its, q, ⟨o, e1, e2, n, e3⟩, _⟩ := I.tuple h1
    exact .tup e1 e2 e3 (rows_is I h2 (by simpa using q))
theorem ent_up (P : Program) (w : World) (xs : List (List (List Int) × Addr × Value)) : (xs.map up1).map (entryOfKey (nestedKind P w)) = xs.map entS := by
  rw [List.map_map]
  refine List.map_congr_left fun x _ => ?_
  show (⟨(kT x.1).hash w, .ref x.2.1, x.2.2⟩ : DictEntry) = ⟨hashS x.1, .ref x.2.1, x.2.2⟩
  rw [kT_hash]
theorem dic_at (I : Inv X pins σ H s) (h : H a = some (dicO a xs)) (hk : ∀ p ∈ xs, Da X.K H (.ref p.2.1) (kS p.1)) : (a == sysModules) = false ∧ s.heap.DictOfH (nestedKind X.prog X.w) a (xs.map up1) := by
  obtain ⟨⟨hd, o, es, ep, e1, e2, e3, e4, e5⟩, _⟩ := (show ObjOk X.prog X.w H s.heap a (dicO a xs) from I.hok a _ h)
  refine ⟨hd, o, es, ep, e1, e2, e3, by rw [ent_up]; exact e4, fun x hx => ?_, up_nodup e5⟩
  obtain ⟨p, hp, rfl⟩ := List.mem_map.mp hx
  exact stk_is I (hk p hp)
theorem dic_ok {P : Program} {w : World} {H : Hp} {h : Heap} (hd : (a == sysModules) = false) (q : h.DictOfH (nestedKind P w) a (xs.map up1)) : ObjOk P w H h a (dicO a xs) := by
  obtain ⟨o, es, ep, e1, e2, e3, e4, _, e5⟩ := q
  refine ⟨⟨hd, o, es, ep, e1, e2, e3, by rw [← ent_up P w]; exact e4, dn_nodup e5⟩, ⟨o, e1⟩, fun h1 h2 ⟨z, o, es, ep, e1, r⟩ k => ⟨z, o, es, ep, k o e1, r⟩⟩
end
/-! ### rules by values -/
def rInS (K : PySem.W.Frag) (ng : Bool) : R2 := fun x y H Q => ∃ a b S xs, x = .ref b ∧ y = .ref a ∧ Da K H (.ref b) (kS S) ∧ H a = some (dicO a xs) ∧ (∀ p ∈ xs, Da K H (.ref p.2.1) (kS p.1)) ∧ Q (.bl ((atKey xs S).isSome != ng)) H
def rSetS (K : PySem.W.Frag) : TSet := fun o i v H Q => ∃ a b S j xs, o = .ref a ∧ i = .ref b ∧ v = .int j ∧ Da K H (.ref b) (kS S) ∧ H a = some (dicO a xs) ∧ (∀ p ∈ xs, Da K H (.ref p.2.1) (kS p.1)) ∧ xs.length ≤ sizeLine ∧ ∀ t, Q (upd H a (dicO a (storedH xs S b (.int j t))))
def tGetS (K : PySem.W.Frag) (td ty : TE) : TE := fun σ H Q => td σ H fun x H1 => ty σ H1 fun y H2 => ∃ a b S i t c xs, x = .ref a ∧ y = .ref b ∧ Da K H2 (.ref b) (kS S) ∧ H2 a = some (dicO a xs) ∧ (∀ p ∈ xs, Da K H2 (.ref p.2.1) (kS p.1)) ∧ atKey xs S = some (c, .int i t) ∧ Q (.int i) H2
def tNewS : TE := fun _ H Q => ∀ p, H p = none → Q (.ref p) (upd H p (dicO p []))
section
variable {X : Cx} {o i e : Expr} {pos : Pos} {td ty : TE}
theorem op_notInS (hu : X.A.units + 64 < cLine) : OpR X (compareOp .NotIn) (rInS X.K true) := by
  intro pins s σ H x y v u Q I rx ry h
  obtain ⟨a, b, S, xs, rfl, rfl, hk, hH, hks, q⟩ := h
  obtain rfl : v = Value.ref b := rx
  obtain rfl : u = Value.ref a := ry
  obtain ⟨hd, dd⟩ := dic_at I hH hks
  refine wpAny_notIn_heap (knd := nestedKind X.prog X.w) (by show X.A.units + 1 + 8 < cLine; omega) (stk_is I hk) hd dd ?_
  rw [up_at]
  exact ⟨_, H, I.tok _, by cases (atKey xs S).isSome <;> rfl, q⟩
theorem set_dicS (hu : X.A.units + 64 < cLine) : PSet X (rSetS X.K) := by
  intro pins s σ H o i v ov iv u Q I ro ri rv h
  obtain ⟨a, b, S, j, xs, rfl, rfl, rfl, hk, hH, hks, hz, q⟩ := h
  obtain rfl : ov = Value.ref a := ro
  obtain rfl : iv = Value.ref b := ri
  obtain ⟨t, rfl⟩ := (show ∃ t, u = Value.int j t from rv)
  obtain ⟨hd, dd⟩ := dic_at I hH hks
  refine wpAny_setItem_heap (knd := nestedKind X.prog X.w) (hsz := by rw [List.length_map]; exact hz) (by show X.A.units + 1 + 8 < cLine; omega) (stk_is I hk) dd fun h' dd' hs => ⟨_, ?_, q t⟩
  rw [up_stored] at dd'
  have he : ∃ q, h'.get? a = some q := let ⟨q, _, _, hq, _⟩ := dd'; ⟨q, hq⟩
  exact d_write I (by rw [hH]; exact True.intro) hs he (dic_ok hd dd')
theorem pe_getS (hu : X.A.units + 64 < cLine) (ho : PE X o td) (hi : PE X i ty) (hs : NoSl i) : PE X (.Subscript o i pos) (tGetS X.K td ty) := by
  refine ⟨fun pins s σ H Q I h => ?_⟩
  refine subD_of PySem.F.slot_dict_getitem.lookup hs (thn (ho.run pins s σ H _ I h) fun u s1 ⟨x, H1, I1, rx, q1⟩ => thn (hi.run pins s1 σ H1 _ I1 q1) fun iv s2 ⟨y, H2, I2, ry, a, b, S, i, t, c, xs, ex, ey, hk, hH, hks, hat, q2⟩ => ?_)
  subst ex ey
  obtain rfl : u = Value.ref a := rx
  obtain rfl : iv = Value.ref b := ry
  obtain ⟨hd, dd⟩ := dic_at I2 hH hks
  refine ⟨dd.typeIs, wpAny_getItem_heap (knd := nestedKind X.prog X.w) (by show X.A.units + 1 + 8 < cLine; omega) (stk_is I2 hk) dd (by rw [up_at]; exact hat) ?_⟩
  exact ⟨.int i, H2, I2.tok _, ⟨t, rfl⟩, q2⟩
theorem pe_newS : PE X (.Dict [] [] pos) tNewS := ⟨fun pins s σ H Q I h =>
  wpAny_Dict_empty ⟨.ref s.heap.objs.size, _, I.laid (a := s.heap.objs.size) (o := dicO s.heap.objs.size []) (t' := s.toks) (fun _ _ q => Heap.get?_push_of_some _ q) (Nat.le_refl _)
    (dic_ok (beq_eq_false_iff_ne.mpr (Ne.symm (Nat.ne_of_lt I.big))) ⟨_, #[], 0, Heap.get?_push_size _ rfl, ⟨rfl, rfl, rfl⟩, rfl, rfl, (fun x hx => by cases hx), List.nodup_nil⟩), rfl, h _ (I.hok.fresh (Nat.le_refl _))⟩⟩
end
/-! ### the mirror -/
def intO : D → Option Int
  | .int i => some i
  | _ => none
def intsO : List D → Option (List Int)
  | [] => some []
  | d :: r => (intO d).bind fun i => (intsO r).map (i :: ·)
def rowO : D → Option (List Int)
  | .tuple ds => intsO ds
  | _ => none
def rowsO : List D → Option (List (List Int))
  | [] => some []
  | d :: r => (rowO d).bind fun i => (rowsO r).map (i :: ·)
def stkD : D → Option (List (List Int))
  | .tuple ds => rowsO ds
  | _ => none
theorem intsO_of : ∀ {ds : List D} {r : List Int}, intsO ds = some r → ds = r.map .int
  | [], r, h => by cases h; rfl
  | d :: ds, r, h => by
    obtain ⟨i, h1, h2⟩ := Option.bind_eq_some_iff.mp h
    obtain ⟨q, h3, rfl⟩ := Option.map_eq_some_iff.mp h2
    rw [intsO_of h3]
    cases d <;> first | (cases h1; rfl) | cases h1
theorem intsO_ok : ∀ r : List Int, intsO (r.map .int) = some r
  | [] => rfl
  | x :: r => by
    show (some x).bind (fun i => (intsO (r.map .int)).map (i :: ·)) = _
    rw [intsO_ok r]; rfl
theorem rowsO_of : ∀ {ds : List D} {S : List (List Int)}, rowsO ds = some S → ds = S.map fun r => .tuple (r.map .int)
  | [], S, h => by cases h; rfl
  | d :: ds, S, h => by
    obtain ⟨i, h1, h2⟩ := Option.bind_eq_some_iff.mp h
    obtain ⟨q, h3, rfl⟩ := Option.map_eq_some_iff.mp h2
    rw [rowsO_of h3]
    cases d with
    | tuple es => rw [intsO_of (show intsO es = some i from h1)]; rfl
    | _ => cases h1
theorem rowsO_ok : ∀ S : List (List Int), rowsO (S.map fun r => .tuple (r.map .int)) = some S
  | [] => rfl
  | x :: r => by
    show (intsO (x.map .int)).bind (fun i => (rowsO (r.map fun r => .tuple (r.map .int))).map (i :: ·)) = _
    rw [rowsO_ok r, intsO_ok]; rfl
theorem stkD_of {d : D} {S : List (List Int)} (h : stkD d = some S) : d = kS S := by
  cases d with
  | tuple es => rw [rowsO_of (show rowsO es = some S from h)]
  | _ => cases h
theorem stkD_ok (S : List (List Int)) : stkD (kS S) = some S := rowsO_ok S
def valK (kvs : List (List (List Int) × Int)) (S : List (List Int)) : Option Int := (kvs.find? fun p => decide (p.1 = S)).map (·.2)
def stoK (kvs : List (List (List Int) × Int)) (S : List (List Int)) (i : Int) : List (List (List Int) × Int) := if (valK kvs S).isSome = true then kvs.map (fun p => if p.1 = S then (p.1, i) else p) else kvs ++ [(S, i)]
def dicZ (k : Nat) : Z (List (List (List Int) × Int)) := fun n φ => ∃ kvs, n.ob[k]? = some (.dic kvs) ∧ φ kvs n
def putK (k : Nat) (kvs : List (List (List Int) × Int)) : Z Unit := fun n φ => φ () ⟨n.n, n.ob.set k (.dic kvs)⟩
def newK : Z D := fun n φ => φ (refD n.ob.length) ⟨n.n, n.ob ++ [.dic []]⟩
def inK (ng : Bool) (j d : D) : Z D := Mo.lift (ownOf d) >>= fun k => dicZ k >>= fun kvs => Mo.lift (stkD j) >>= fun S => pure (.bool ((valK kvs S).isSome != ng))
def getK (d j : D) : Z D := Mo.lift (ownOf d) >>= fun k => dicZ k >>= fun kvs => Mo.lift (stkD j) >>= fun S => Mo.lift (valK kvs S) >>= fun i => pure (.int i)
def setK (d j v : D) : Z Unit := Mo.lift (ownOf d) >>= fun k => dicZ k >>= fun kvs => Mo.lift (stkD j) >>= fun S => Mo.lift (intO v) >>= fun i => Mo.lift (fits kvs.length) >>= fun _ => putK k (stoK kvs S i)
section
variable {K : PySem.W.Frag} {B : Bs} {g : List Sl} {σ : L2.St} {H G : Hp} {n : Wd} {S : List (List Int)} {kvs : List (List (List Int) × Int)} {xs : List (List (List Int) × Addr × Value)}
theorem KvS.len : ∀ {kvs : List (List (List Int) × Int)} {xs : List (List (List Int) × Addr × Value)}, KvS K G kvs xs → kvs.length = xs.length
  | _, _, .nil => rfl
  | _, _, .cons _ r => by simp [r.len]
theorem KvS.val : ∀ {kvs : List (List (List Int) × Int)} {xs : List (List (List Int) × Addr × Value)}, KvS K G kvs xs → (valK kvs S).isSome = (atKey xs S).isSome ∧ ∀ i, valK kvs S = some i → ∃ c t, atKey xs S = some (c, .int i t)
  | _, _, .nil => ⟨rfl, fun i h => by cases h⟩
  | _, _, .cons (S := T) (i := j) (a := a) (t := t) (ps := ps) (xs := xs) h r => by
    have ih := r.val
    unfold valK atKey at ih ⊢
    rw [List.find?_cons, List.find?_cons]
    by_cases e : T = S
    · rw [decide_eq_true e]
      exact ⟨rfl, fun i h => by cases h; exact ⟨_, _, rfl⟩⟩
    · rw [decide_eq_false e]
      exact ih
theorem KvS.keys : ∀ {kvs : List (List (List Int) × Int)} {xs : List (List (List Int) × Addr × Value)}, KvS K G kvs xs → ∀ p ∈ xs, Da K G (.ref p.2.1) (kS p.1)
  | _, _, .nil, _, h => nomatch h
  | _, _, .cons h r, p, hp => by
    rcases List.mem_cons.mp hp with rfl | hp
    · exact h
    · exact r.keys p hp
theorem KvS.repl {i : Int} {t : Tok} : ∀ {kvs : List (List (List Int) × Int)} {xs : List (List (List Int) × Addr × Value)}, KvS K G kvs xs → KvS K G (kvs.map fun p => if p.1 = S then (p.1, i) else p) (xs.map (putAt S (.int i t)))
  | _, _, .nil => .nil
  | _, _, .cons (S := T) (i := j) (a := a) (t := t') (ps := ps) (xs := xs) h r => by
    have ih := r.repl (i := i) (t := t)
    rw [List.map_cons, List.map_cons]
    by_cases e : T = S
    · have e1 : putAt S (.int i t) (T, a, .int j t') = (T, a, .int i t) := if_pos e
      rw [if_pos e, e1]
      exact .cons h ih
    · have e1 : putAt S (.int i t) (T, a, .int j t') = (T, a, .int j t') := if_neg e
      rw [if_neg e, e1]
      exact .cons h ih
theorem KvS.snoc {b : Addr} {i : Int} {t : Tok} (hb : Da K G (.ref b) (kS S)) : ∀ {kvs : List (List (List Int) × Int)} {xs : List (List (List Int) × Addr × Value)}, KvS K G kvs xs → KvS K G (kvs ++ [(S, i)]) (xs ++ [(S, b, .int i t)])
  | _, _, .nil => .cons hb .nil
  | _, _, .cons h r => .cons h (r.snoc hb)
theorem KvS.put {b : Addr} {i : Int} {t : Tok} (h : KvS K G kvs xs) (hb : Da K G (.ref b) (kS S)) : KvS K G (stoK kvs S i) (storedH xs S b (.int i t)) := by
  unfold stoK storedH
  rw [h.val.1]
  split
  · exact h.repl
  · exact h.snoc hb
theorem okD_rows : ∀ S : List (List Int), okDs (S.map fun r => PyData.tuple (r.map .int)) = true
  | [] => rfl
  | r :: S => by
    show (okDs (r.map .int) && okDs (S.map fun r => PyData.tuple (r.map .int))) = true
    have h : ∀ r : List Int, okDs (r.map PyData.int) = true := fun r => by
      induction r with
      | nil => rfl
      | cons x r ih => exact ih
    rw [okD_rows S, h]; rfl
theorem okD_kS (S : List (List Int)) : okD (kS S) = true := okD_rows S
theorem Ok.dicAt (o : Ok K B g σ H G n) {v : V} {d : D} {k : Nat} (h : Da K G v d) (e : ownOf d = some k) (hk : n.ob[k]? = some (.dic kvs)) : ∃ a xs, v = .ref a ∧ G a = some (.own k) ∧ H a = some (dicO a xs) ∧ KvS K G kvs xs ∧ ∀ p ∈ xs, Da K H (.ref p.2.1) (kS p.1) := by
  obtain ⟨a, rfl, ga⟩ := h.own e
  obtain ⟨c', h1, h2⟩ := o.fm.obs.at_ a _ k ga rfl
  rw [hk] at h1
  cases h1
  obtain ⟨_, xs, q1, q2⟩ := h2
  exact ⟨a, xs, rfl, ga, q1, q2, fun p hp => (q2.keys p hp).toH o.fm.sub (okD_kS _)⟩
theorem kS_ref {v : V} (h : Da K G v (kS S)) : ∃ b, v = .ref b := by
  cases h with
  | tup h1 h2 => exact ⟨_, rfl⟩
end
section
variable {m : Type → Type} [Mo m] [OverZ m] {X : Cx} {EX : XR} {g : List Sl} {pos : Pos} {a b e : Expr} {x y : m D}
theorem inK_out {ng : Bool} {j d : D} {n : Wd} {φ : D → Wd → Prop} (h : inK ng j d n φ) : ∃ k kvs S, ownOf d = some k ∧ n.ob[k]? = some (.dic kvs) ∧ j = kS S ∧ φ (.bool ((valK kvs S).isSome != ng)) n := by
  obtain ⟨k, ek, kvs, hk, S, eS, p⟩ := h
  exact ⟨k, kvs, S, ek, hk, stkD_of eS, p⟩
theorem inK_w {ng : Bool} {σ : L2.St} {H : Hp} {Q : VK} (h : teJ X EX g (x >>= fun j => y >>= fun d => OverZ.up (inK ng j d)) σ H Q) : tOp (rInS X.K ng) (teJ X EX g x) (teJ X EX g y) σ H Q := by
  obtain ⟨B, G, n, φ, ξ, o, s, q, xw⟩ := h
  refine te_one o s (fun v H1 G1 j n1 o1 g1 d1 s1 => te_one o1 s1 (fun w H2 G2 d n2 o2 g2 d2 s2 => ?_) xw) xw
  obtain ⟨k, kvs, S, ek, hk, rfl, pz⟩ := inK_out (OverZ.sat_up s2)
  obtain ⟨a, xs, rfl, ga, hH, kv, hks⟩ := o2.dicAt d2 ek hk
  have dj := d1.mono g2
  obtain ⟨b, rfl⟩ := kS_ref dj
  rw [(kv.val (S := S)).1] at pz
  exact ⟨a, b, S, xs, rfl, rfl, dj.toH o2.fm.sub (okD_kS S), hH, hks, q _ H2 G2 _ n2 o2 (g1.trans g2) (.bl _) pz⟩
theorem tj_notInK (hu : X.A.units + 64 < cLine) (ha : EJ X EX a g x) (hb : EJ X EX b g y) (hm : behindInMarks .NotIn b = false := by first | exact nobehind _ (by decide) (by decide) | rfl) :
    TJ X EX (.Compare a [.NotIn] [b] pos) g ((x >>= fun j => y >>= fun d => OverZ.up (inK true j d)) >>= fun d => Mo.lift (boolD d)) := PT.weak (pt_cmpR (op_notInS hu) ha hb hm) (tj_wO fun _ _ _ h => inK_w h)
/-- d[k] -/
theorem ej_getK (hu : X.A.units + 64 < cLine) (ha : EJ X EX a g x) (hb : EJ X EX b g y) (hs : NoSl b := by exact fun _ _ => rfl) :
    EJ X EX (.Subscript a b pos) g (x >>= fun d => y >>= fun j => OverZ.up (getK d j)) :=
  (pe_getS hu ha hb hs).weak fun σ H Q ⟨B, G, n, φ, ξ, o, s, q, xw⟩ => te_one o s (fun v H1 G1 d n1 o1 g1 d1 s1 => te_one o1 s1 (fun w H2 G2 j n2 o2 g2 d2 s2 => by
    obtain ⟨k, ek, kvs, hk, S, eS, i, ei, pz⟩ := (show getK d j n2 φ from OverZ.sat_up s2)
    obtain rfl := stkD_of eS
    obtain ⟨a, xs, rfl, ga, hH, kv, hks⟩ := o2.dicAt (d1.mono g2) ek hk
    obtain ⟨b, rfl⟩ := kS_ref d2
    obtain ⟨c, t, hat⟩ := (kv.val (S := S)).2 i ei
    exact ⟨a, b, S, i, t, c, xs, rfl, rfl, d2.toH o2.fm.sub (okD_kS S), hH, hks, hat, q _ H2 G2 _ n2 o2 (g1.trans g2) (.int i) pz⟩) xw) xw
/-- {} -/
theorem ej_newK : EJ X EX (.Dict [] [] pos) g (OverZ.up newK : m D) :=
  pe_newS.weak fun σ H Q ⟨B, G, n, φ, ξ, o, s, q, xw⟩ p hp => by
    have s2 : newK n φ := OverZ.sat_up s
    obtain ⟨f1, f2⟩ := o.fresh hp
    obtain ⟨o2, g2⟩ := (o.raw (u := dicO p []) hp).mark (w := dicO p []) (u := .own n.ob.length) (c := .dic []) f1 (o.fm.sub.t p hp) upd_same f2 rfl ⟨upd_same, [], upd_same, .nil⟩
    exact q _ _ _ _ _ o2 g2 (.obj upd_same) s2
/-- o[k] = e -/
theorem sj_setK {o0 k : Expr} {p2 : Pos} {z : m D} (hu : X.A.units + 64 < cLine) (h : EJ X EX e g x) (ho : EJ X EX o0 g y) (hk : EJ X EX k g z)
    (ha : ∀ v, assign (.Subscript o0 k p2) X.env v = (do
      let ov ← holding [v] (eval o0 X.env)
      let iv ← holding [v, ov] (eval k X.env)
      standAt p2
      holding [v, ov, iv] (setItem ov iv v)
      release [v, ov, iv] []) := by intro _; rfl)
    (hs : swapsWithSole [.Subscript o0 k p2] e pos.line X.env = pure false := by kernel_rfl) (hw : swappedStores [.Subscript o0 k p2] e X.env = pure none := by kernel_rfl)
    (h1 : (assignEach [.Subscript o0 k p2] X.env).map (·.2) = [assign (.Subscript o0 k p2) X.env] := by rfl) :
    SJ X EX (.Assign [.Subscript o0 k p2] e pos) g (x >>= fun v => y >>= fun d => z >>= fun j => OverZ.up (setK d j v)) (fun _ => g) :=
  (ps_asg h (pg_sub ho hk (set_dicS hu) ha) hs hw h1).weak fun De σ H ⟨B, G, n, φ, ξ, o, s, q, xw⟩ => te_one o s (fun v H1 G1 dv n1 o1 g1 d1 s1 => te_one o1 s1 (fun w H2 G2 d n2 o2 g2 d2 s2 => te_one o2 s2 (fun u H3 G3 j n3 o3 g3 d3 s3 => by
    obtain ⟨k, ek, kvs, hk, S, eS, i, ei, un, hf, pe⟩ := (show setK d j dv n3 φ from OverZ.sat_up s3)
    obtain rfl := stkD_of eS
    obtain ⟨a, xs, rfl, ga, hH, kv, hks⟩ := o3.dicAt (d2.mono g3) ek hk
    obtain ⟨b, rfl⟩ := kS_ref d3
    have dv' := (d1.mono g2).mono g3
    cases dv with
    | int i' =>
      cases ei
      cases dv'
      refine ⟨a, b, S, i, xs, rfl, rfl, rfl, d3.toH o3.fm.sub (okD_kS S), hH, hks, ?_, fun t => q () _ _ G3 _ (o3.putG (c := .dic (stoK kvs S i)) ga rfl ⟨ga, _, upd_same, kv.put d3⟩) ((g1.trans g2).trans g3) pe⟩
      rw [← kv.len]
      exact Nat.le_of_lt (fits_lt hf)
    | _ => cases ei) xw) xw) xw
end
/-- how deep a recursion of two methods goes -/
def rlv : Nat → Nat
  | 0 => 4
  | n + 1 => rlv n + 2
theorem rlv_le : ∀ n, 4 ≤ rlv n
  | 0 => Nat.le_refl _
  | n + 1 => Nat.le_trans (rlv_le n) (Nat.le_add_right _ 2)
end DD
/-! lambdas without parameters that a def calls -/
namespace DD
open PySem PySem.Spec PyProof.Rows L2 LamX
section
variable {K : PySem.W.Frag} {B : Bs} {g : List Sl} {σ : L2.St} {H G : Hp} {n : Wd}
/-- the cell k of the world is the table at P -/
theorem Ok.tabAt (o : Ok K B g σ H G n) {k : Nat} {P : Addr} {q : Str} (h : n.ob[k]? = some (.tab P q)) : G P = some (.met k (k + 1)) ∧ ∃ ps : Array Value, H P = some (.tbl ps) ∧ TriplesOk ps.toList ∧ ∀ (pos : Pos) (cv : Value), codeAmong pos ps.toList = some cv → ∃ c, cv = .ref c ∧ G c = some (CodeO c q) := by
  obtain ⟨a, c1, rfl, ps, c2, c3, c4⟩ := o.fm.obs.all k _ h
  exact ⟨c1, ps, c2, c3, c4⟩
/-- the table grows by a code object -/
theorem Ok.tabGrow (o : Ok K B g σ H G n) {k : Nat} {P c' : Addr} {q : Str} {ps more : Array Value} (h : n.ob[k]? = some (.tab P q)) (hP : H P = some (.tbl ps)) (hc : H c' = none) (ht : TriplesOk (ps ++ more).toList)
    (ha : ∀ (pos : Pos) (cv : Value), codeAmong pos (ps ++ more).toList = some cv → codeAmong pos ps.toList = some cv ∨ cv = .ref c') :
    Ok K B g σ (upd (upd H P (.tbl (ps ++ more))) c' (CodeO c' q)) (upd G c' (CodeO c' q)) n ∧ Same G (upd G c' (CodeO c' q)) := by
  obtain ⟨gP, ps', hP', _, hold⟩ := o.tabAt h
  rw [hP] at hP'
  cases hP'
  obtain ⟨o1, g1⟩ := o.alloc (u := CodeO c' q) hc
  have nP : P ≠ c' := ne_of_none hP hc
  have e : upd (upd H c' (CodeO c' q)) P (.tbl (ps ++ more)) = upd (upd H P (.tbl (ps ++ more))) c' (CodeO c' q) := by
    funext b
    by_cases h1 : b = P
    · subst h1
      rw [upd_same, upd_ne nP, upd_same]
    · rw [upd_ne h1]
      by_cases h2 : b = c'
      · subst h2
        rw [upd_same, upd_same]
      · rw [upd_ne h2, upd_ne h2, upd_ne h1]
  have gP1 : upd G c' (CodeO c' q) P = some (.met k (k + 1)) := by rw [upd_ne nP]; exact gP
  have o2 := o1.putG (a := P) (k := k) (w := .tbl (ps ++ more)) (c := .tab P q) gP1 rfl ⟨gP1, rfl, ps ++ more, upd_same, ht, fun pos cv hcv => by
    rcases ha pos cv hcv with z | z
    · obtain ⟨c0, e1, e2⟩ := hold pos cv z
      exact ⟨c0, e1, g1 _ _ e2⟩
    · exact ⟨c', z, upd_same⟩⟩
  rw [e] at o2
  have en : (⟨n.n, n.ob.set k (.tab P q)⟩ : Wd) = n := by
    obtain ⟨n1, ob⟩ := n
    congr 1
    refine List.ext_getElem? fun i => ?_
    rw [List.getElem?_set]
    by_cases hi : k = i
    · subst hi
      have hk : ob[k]? = some (.tab P q) := h
      rw [if_pos rfl, if_pos (List.getElem?_eq_some_iff.mp hk).1, hk]
    · rw [if_neg hi]
  rw [en] at o2
  exact ⟨o2, g1⟩
end
section
variable {X : Cx} {pins : List (Addr × Obj)} {σ : L2.St} {H : Hp} {s : Shared}
/-- the object of the lambda -/
abbrev lamO (X : Cx) (params : Arguments) (body : Expr) (scope : Scope) (pm : Value) (c' : Addr) (ctv : Value) : Obj := PySem.W.kla_obj "<lambda>" (X.env.qual ++ "<lambda>") params body scope (cloFrom X.env.cells scope.names []) pm c' ctv
/-- the lambda is made: by the code object that the table tells, or by a new one -/
theorem lam_mk {c P : Addr} {params : Arguments} {body : Expr} {scope : Scope} {pos : Pos} {ps : Array Value} {E : Value → Shared → Prop} {Q : Value → Shared → Prop} (I : Inv X pins σ H s) (TB : TabB X.base X.mg c P) (hcode : X.env.code = .ref c)
    (hdef : defaultsOf params X.env = ([], [])) (hfree : ∀ y ∈ scope.names, y.2 = .free → ∃ c, X.env.cells.lookup y.1 = some c) (hP : H P = some (.tbl ps)) (ht : TriplesOk ps.toList) (hcs : ∀ (pos : Pos) (cv : Value), codeAmong pos ps.toList = some cv → ∃ c, cv = .ref c)
    (hit : ∀ (f c' : Addr) (pm ctv : Value) (s' : Shared), codeAmong pos ps.toList = some (.ref c') → Inv X pins σ H s' → s'.heap.get? f = some (lamO X params body scope pm c' ctv) → H f = none → f ∉ frs X.stack → Q (.ref f) s')
    (new : ∀ (f c' : Addr) (pm ctv : Value) (s' : Shared) (more : Array Value), H c' = none → TriplesOk (ps ++ more).toList → (∀ (p' : Pos) (cv : Value), codeAmong p' (ps ++ more).toList = some cv → codeAmong p' ps.toList = some cv ∨ cv = .ref c') →
      Inv X pins σ (upd (upd H P (.tbl (ps ++ more))) c' (CodeO c' (X.env.qual ++ "<lambda>"))) s' → s'.heap.get? f = some (lamO X params body scope pm c' ctv) → upd (upd H P (.tbl (ps ++ more))) c' (CodeO c' (X.env.qual ++ "<lambda>")) f = none → f ∉ frs X.stack → Q (.ref f) s') :
    wpAny (model X.prog X.w) X.A (eval (.Lambda params body scope pos) X.env) Q E s := by
  refine PySem.W.kla_eval hdef ?_
  have bP := TB.bm.keeps I.bk
  have oP : s.heap.get? P = some { cls := .none, data := .fields ps } := I.hok P _ hP
  have cd := TB.code.keeps I.bk
  have gl := I.mod.glob.keeps I.bk
  have out : ∀ b : Addr, s.heap.objs.size ≤ b → b ∉ frs X.stack := fun b hb m => by
    rcases List.mem_cons.mp (I.stkSub _ m) with z | z
    · have lt := I.lt
      rw [← z] at lt
      exact Nat.lt_irrefl _ (Nat.lt_of_lt_of_le lt hb)
    · exact I.nofs hb z
  cases hc : codeAmong pos ps.toList with
  | some cv =>
    obtain ⟨c', rfl⟩ := hcs pos cv hc
    exact PySem.W.kla_makeFunctionHit (mg := X.mg) (c := c) (P := P) (ps := ps) (closure_ok hfree) I.ok.glob gl hcode cd oP ht hc bP fun ctv h' tk kp sz =>
      hit h'.objs.size c' _ ctv _ hc (I.kept fun b o e => Heap.get?_push_of_some _ (kp b o e)) (Heap.get?_push_size _ rfl) (I.hok.fresh sz) (out _ sz)
  | none =>
    refine PySem.W.kla_makeFunction (mg := X.mg) (c := c) (P := P) (ps := ps) (closure_ok hfree) I.ok.glob gl hcode cd oP ht hc TB.gP bP fun c' ctv h' tk bt ge lt rec tb => ?_
    obtain ⟨c2, oc, vs, t, ec, ho, hd, hv⟩ := rec
    cases ec
    have sz : s.heap.objs.size ≤ h'.objs.size := Nat.le_trans ge (Nat.le_of_lt lt)
    have I1 := inv_table (t' := tk) (more := #[rawInt pos.line, rawInt pos.col, .ref c']) (h' := h'.push (lamO X params body scope ((X.mg "__name__").getD .none) c' ctv)) I hP (fun b o hb e => Heap.get?_push_of_some _ (bt b o hb e)) (Heap.get?_push_of_some _ tb) ge ⟨oc, vs, t, Heap.get?_push_of_some _ ho, hd, hv⟩
    have el : (ps ++ #[rawInt pos.line, rawInt pos.col, .ref c']).toList = ps.toList ++ [rawInt pos.line, rawInt pos.col, .ref c'] := by simp
    refine new h'.objs.size c' _ ctv _ _ (I.hok.fresh ge) (by rw [el]; exact PySem.TriplesOk_snoc _ _ _ _ ht) (fun p' cv hcv => ?_) I1 (Heap.get?_push_size _ rfl) ?_ (out _ sz)
    · rw [el] at hcv
      exact among_app _ ht hcv
    · rw [upd_ne (Nat.ne_of_gt lt), upd_ne (Nat.ne_of_gt (Nat.lt_of_lt_of_le (Heap.lt_size oP) sz))]
      exact I.hok.fresh sz
end
/-- the context of the lambda's body; what is raised in it leaves -/
def lamN (X : Cx) (A : Around) (outer : List Env) (s : Shared) (H : Hp) (E : XK) (scope : Scope) (f c' : Addr) : Cx :=
  (lamCx X A outer s H E scope f c').tr [] fun e s' => wpAny (model X.prog X.w) (A.deeper (lamEnv X scope s.heap.objs.size f c')) (leaving (lamEnv X scope s.heap.objs.size f c') e) (fun _ s'' => L2N.CX X.prog X.w outer H s E e s'') (fun e' s'' => L2N.CX X.prog X.w outer H s E e' s'') s'
theorem takesL {X : Cx} {A : Around} {outer : List Env} {s : Shared} {H : Hp} {E : XK} {scope : Scope} {f c' : Addr} : L2N.Takes (lamN X A outer s H E scope f c') (fun cls d _ H => E cls d H) := L2N.takes_of rfl rfl rfl rfl
/-- slots that hold data or nothing known -/
def dataSl : List Sl → Bool
  | [] => true
  | .val _ :: r => dataSl r
  | .any :: r => dataSl r
  | _ => false
theorem dataSl_get : ∀ {g : List Sl} {i : Nat} {s : Sl}, dataSl g = true → g[i]? = some s → (∃ d, s = .val d) ∨ s = .any
  | [], _, _, _, e => by cases e
  | .val d :: r, 0, _, _, e => by cases e; exact .inl ⟨d, rfl⟩
  | .val d :: r, i + 1, _, h, e => dataSl_get (g := r) h e
  | .any :: r, 0, _, _, e => by cases e; exact .inr rfl
  | .any :: r, i + 1, _, h, e => dataSl_get (g := r) h e
  | .own _ :: _, _, _, h, _ => by cases h
  | .deck :: _, _, _, h, _ => by cases h
  | .exn _ _ _ :: _, _, _, h, _ => by cases h
  | .fn _ _ :: _, _, _, h, _ => by cases h
theorem dataSl_no {g : List Sl} {i : Nat} {s : Sl} (h : dataSl g = true) (e : g[i]? = some s) (h1 : ∀ d, s ≠ .val d) (h2 : s ≠ .any) : False := by
  rcases dataSl_get h e with ⟨d, z⟩ | z
  · exact h1 d z
  · exact h2 z
theorem ok_data {K : PySem.W.Frag} {B : Bs} {gl : List Sl} {σ : L2.St} {H G : Hp} {n : Wd} (fm : Fm K B H G n) (hsl : dataSl gl = true) (hlen : gl.length = σ.length) (hval : ∀ (i : Nat) (d : D), gl[i]? = some (Sl.val d) → ∃ v, σ[i]? = some (some v) ∧ Da K G v d) : Ok K B gl σ H G n where
  fm := fm
  len := hlen
  val := hval
  own := ⟨fun _ => 0, fun i j ds es e => (dataSl_no hsl e (by simp) (by simp)).elim, fun i ds e => (dataSl_no hsl e (by simp) (by simp)).elim⟩
  dck := fun i e => (dataSl_no hsl e (by simp) (by simp)).elim
  adr := fun i a od fs e => (dataSl_no hsl e (by simp) (by simp)).elim
  fnc := fun i f F e => (dataSl_no hsl e (by simp) (by simp)).elim
section
variable {m : Type → Type} [Mo m]
/-- the lambda's body in the context of whoever calls it -/
theorem ej_act {X : Cx} {pins : List (Addr × Obj)} {σ : L2.St} {H : Hp} {s : Shared} {Ng : List Str} {qg : Str} {sg : Scope} {f0 f c' : Addr} {cdg pm ctv : Value} {params : Arguments} {body : Expr} {scope : Scope} {k i : Nat} {a : Str} {pn : List (Addr × Obj)} {xe : Value → Shared → Prop} {Eg : XK} {CXg : CXT} {EX : XR} {gz gl : List Sl} {G : Hp} {y : m D} {p1 p2 : Pos}
    (I : Inv X pins σ H s) (L : LamS X.env.scope scope) (hf : s.heap.get? f = some (lamO X params body scope pm c' ctv)) (hfn : H f = none) (hfr : f ∉ frs X.stack)
    (hbind : bindArgs (PySem.W.kla_fn "<lambda>" (X.env.qual ++ "<lambda>") params body scope (cloFrom X.env.cells scope.names []) pm (.ref c') ctv) ⟨[], []⟩ = pure [])
    (hco : G c' = some (CodeO c' (X.env.qual ++ "<lambda>"))) (hsl : dataSl gl = true) (hlen : gl.length = σ.length) (hval : ∀ (i : Nat) (d : D), gl[i]? = some (Sl.val d) → ∃ v, σ[i]? = some (some v) ∧ Da X.K G v d)
    (tk : L2N.Takes ((cxOf CXg X.prog X.w X.K X.mg X.base Ng qg sg f0 cdg X.A X.stack s H Eg).tr pn xe) EX.w) (sb : Sub gz EX.g) (hr : Room (k + 1) (X.A.deeper (envOfC qg sg s.heap.objs.size f0 cdg))) (gu : X.A.guards = some [])
    (hbody : ∀ (A : Around) (outer : List Env) (s : Shared) (H : Hp) (E : XK), Room k (A.deeper (lamEnv X scope s.heap.objs.size f c')) → A.guards = some [] → EJ (lamN X A outer s H E scope f c') ⟨fun c od _ H => E c od H, gl⟩ body gl y)
    (hgz : gz[i]? = some (.fn f fun G' => Same G G')) (hN : Ng[i]? = some a) (hv : Vis sg a) (hd : (a == ("__debug__" : Str)) = false := by decide) (hcd : (a == ("__classdict__" : Str)) = false := by decide) :
    EJ ((cxOf CXg X.prog X.w X.K X.mg X.base Ng qg sg f0 cdg X.A X.stack s H Eg).tr pn xe) EX (.Call (.Name a p1) [] [] p2) gz y := by
  refine ⟨fun pinsZ sZ σz HZ Q IZ ⟨B, GZ, n, φ, ξ, oz, sa, q, xw⟩ => ?_⟩
  obtain ⟨hs, same, _⟩ := oz.fnc i f _ hgz
  refine wpAny_Call_Name_kw (thn ((pe_var (pos := p1) (i := i) hN hv hd hcd).run pinsZ sZ σz HZ (fun v H1 => v = .ref f ∧ H1 = HZ) IZ ⟨.ref f, hs, rfl, rfl⟩) fun u s1 ⟨v, H1, I1, r1, q1⟩ => ?_)
  obtain ⟨rfl, rfl⟩ := q1
  obtain rfl : u = Value.ref f := r1
  have of1 : s1.heap.get? f = some (lamO X params body scope pm c' ctv) := I1.base.keep f _ hf hfn hfr (fun z => nomatch (show f ∈ ([] : List Addr) from z))
  refine PySem.W.callWith_F0 ⟨_, _, _, _, of1⟩ ?_
  have un : Un (frs X.stack) [] H H1 s.heap s1.heap := I1.base
  have hcH : H1 c' = some (CodeO c' (X.env.qual ++ "<lambda>")) := oz.fm.sub.h _ _ (same _ _ hco) rfl
  obtain ⟨⟨oc, vs, t, hoc, hdc, hvc⟩, _, _⟩ := I1.hok c' _ hcH
  have fmL := oz.fm.at_call
  have okL : Ok X.K ⟨H1, GZ, B.dk, GZ⟩ gl σ H1 GZ n := ok_data fmL hsl hlen fun j d e => by
    obtain ⟨v, h1, h2⟩ := hval j d e
    exact ⟨v, h1, h2.mono same⟩
  have rc : codeAny (model X.prog X.w) (X.A.deeper (envOfC qg sg s.heap.objs.size f0 cdg)) (.call (.ref f) ⟨[], []⟩) (CR (L2N.CX X.prog X.w) (envOfC qg sg s.heap.objs.size f0 cdg :: X.stack) X.prog X.w H1 s1 Q (WE EX.w σz)) s1 := by
    refine PySem.W.kla_callFunE hr.depth of1 rfl L.co L.gen rfl ⟨c', oc, vs, t, rfl, hoc, hdc, hvc⟩ ?_
    rw [hbind]
    refine wpAny_pure (wpAny_newFunctionEnv (fun y hy => (L.own y hy).2) (fun y hy => absurd hy (by simp)) (fun h₁ hns hsb => ⟨I1.nolimit.fresh _ hsb, ?_⟩) L.kind)
    show codeAny _ _ (.expr body (lamEnv X scope s1.heap.objs.size f c')) _ _
    have kp : ∀ b o, s1.heap.get? b = some o → h₁.get? b = some o := fun b o e => hsb.extBut b o (Nat.ne_of_lt (Heap.lt_size e)) (Heap.get?_push_of_some _ e)
    have J := lam_start2 (E := WE EX.w σz) (A := X.A.deeper (envOfC qg sg s.heap.objs.size f0 cdg)) (outer := envOfC qg sg s.heap.objs.size f0 cdg :: X.stack) (c' := c') (f := f) (tk := s1.toks + ([] : List (Str × Value)).length) I L I1.env0 hr.hd un hns kp
    have J2 : Inv (lamN X (X.A.deeper (envOfC qg sg s.heap.objs.size f0 cdg)) (envOfC qg sg s.heap.objs.size f0 cdg :: X.stack) s1 H1 (WE EX.w σz) scope f c') [] σ H1 { s1 with heap := h₁, toks := s1.toks + ([] : List (Str × Value)).length } := J.toTry _
    refine PySem.W.kla_codeExpr (wpAny_mono ((hbody _ _ s1 H1 (WE EX.w σz) (hr.deeper _) gu).run [] _ _ H1 Q J2 ⟨_, GZ, n, φ, ξ, okL, sa, fun v H' G' d n' o' g' dv p => ?_, fun e n' σ' H' G' c od hx o' ex => ?_⟩) (fun v s' hq => ?_) fun e s' hq => hq)
    · obtain ⟨o2, g2⟩ := Fm.back oz (.inr rfl) o'.fm
      exact q v H' G' d n' o2 g2 dv p
    · obtain ⟨o2, g2⟩ := Fm.back oz (.inr rfl) o'.fm
      exact xw e n' σz H' G' c od hx (o2.forget sb) ex
    · obtain ⟨w', H', J', rv, q⟩ := hq
      exact ⟨w', H', J'.os, J'.bare, J'.base, J'.hok, rv, q⟩
  refine wpAny_call (codeAny_mono rc fun r s' hq => ?_)
  cases r with
  | error e => exact L2N.passAt tk σz pinsZ H1 s1 e s' I1 hq
  | ok fl =>
    cases fl with
    | ret u => exact I1.after hq
    | next => exact False.elim hq
    | brk => exact False.elim hq
    | cont => exact False.elim hq
end
end DD
/-! defs that call the lambda they are given; the law's deck beside the table; the end -/
namespace DD
open PySem PySem.Spec PyProof.Rows L2 LamX
theorem ok_startL {K : PySem.W.Frag} {B : Bs} {H G : Hp} {n : Wd} {N : List Str} {f : Addr} {F : Hp → Prop} (fm : Fm K B H G n) (x : F G) (mono : ∀ G1 G2, Same G1 G2 → F G1 → F G2) : Ok K B (Sl.fn f F :: List.replicate (N.length - 1) .any) (start N [.ref f]) H G n where
  fm := fm
  len := by rw [start_one]; simp
  val := fun i d e => by
    cases i with
    | zero => cases e
    | succ i => rw [List.getElem?_cons_succ, List.getElem?_replicate] at e; split at e <;> cases e
  own := by
    have no : ∀ (i : Nat) (ds : List D), (Sl.fn f F :: List.replicate (N.length - 1) Sl.any)[i]? ≠ some (Sl.own ds) := fun i ds e => by
      cases i with
      | zero => cases e
      | succ i => rw [List.getElem?_cons_succ, List.getElem?_replicate] at e; split at e <;> cases e
    exact ⟨fun _ => 0, fun i j ds es e => absurd e (no _ _), fun i ds e => absurd e (no _ _)⟩
  dck := fun i e => by
    cases i with
    | zero => cases e
    | succ i => rw [List.getElem?_cons_succ, List.getElem?_replicate] at e; split at e <;> cases e
  adr := fun i b od' fs' e => by
    cases i with
    | zero => cases e
    | succ i => rw [List.getElem?_cons_succ, List.getElem?_replicate] at e; split at e <;> cases e
  fnc := fun i b F' e => by
    cases i with
    | zero => cases e; exact ⟨rfl, x, mono⟩
    | succ i => rw [List.getElem?_cons_succ, List.getElem?_replicate] at e; split at e <;> cases e
/-- what a def asks of the calls of its argument, by the mirror y -/
def ActL (Z : Cx) (fu : Addr) (Fp : Hp → Prop) (a : Str) (y : ZX D) : Prop := ∀ (pn : List (Addr × Obj)) (xe : Value → Shared → Prop) (EX : XR) (gz : List Sl) (p1 p2 : Pos), L2N.Takes (Z.tr pn xe) EX.w → Sub gz EX.g → gz[0]? = some (.fn fu Fp) → EJ (m := ZX) (Z.tr pn xe) EX (.Call (.Name a p1) [] [] p2) gz y
/-- a def that calls the function it is given; its mirror takes that function's mirror -/
structure FnL (P : Program) (w : World) (K : PySem.W.Frag) (mg : Str → Option Value) (base : Heap) (k : Nat) (x : Str) (st : Stmt) (N : List Str) (a : Str) (T : ZX D → Z D) : Prop where
  ex : ∃ (f : Addr) (fd : FuncData), Fun K x x st f fd ∧ FnScope N [a] (defScope st) ∧ mg x = some (.ref f) ∧ PySem.W.keepIn K (.ref f) = true ∧ Binds K fd [a] [] ∧ N[0]? = some a ∧ Vis (defScope st) a ∧
    ∀ (fu : Addr) (Fp : Hp → Prop) (cdv : Value) (A : Around) (outer : List Env) (s : Shared) (H : Hp) (E : XK) (y : ZX D), Room k (A.deeper (envOfC x (defScope st) s.heap.objs.size f cdv)) → A.guards = some [] →
      ActL (cxOf CX0 P w K mg base N x (defScope st) f cdv A outer s H E).nox fu Fp a y →
      FJ (cxOf CX0 P w K mg base N x (defScope st) f cdv A outer s H E).nox X0 true (defBody st) (.fn fu Fp :: List.replicate (N.length - 1) .any) (T y)
theorem FnL.mono {P : Program} {w : World} {K : PySem.W.Frag} {mg : Str → Option Value} {base : Heap} {j k : Nat} {x : Str} {st : Stmt} {N : List Str} {a : Str} {T : ZX D → Z D} (F : FnL P w K mg base j x st N a T) (h : j ≤ k) : FnL P w K mg base k x st N a T := by
  obtain ⟨f, fd, h1, h2, h3, h4, h5, h6, h7, h8⟩ := F.ex
  exact ⟨f, fd, h1, h2, h3, h4, h5, h6, h7, fun fu Fp cdv A outer s H E y hr => h8 fu Fp cdv A outer s H E y (hr.mono h)⟩
/-- the world's cell k is the table -/
def tabZ (k : Nat) (P : Addr) (q : Str) : Z Unit := fun n φ => n.ob[k]? = some (.tab P q) ∧ φ () n
/-- f(lambda: body) -/
theorem ej_lamcall {X : Cx} {EX : XR} {g : List Sl} (gl : List Sl) {j k : Nat} {x a : Str} {st : Stmt} {N : List Str} {T : ZX D → Z D} {c P : Addr} {kc : Nat} {q : Str} {params : Arguments} {body : Expr} {scope : Scope} {y : ZX D} {p lpos pos : Pos}
    (Fn : FnL X.prog X.w X.K X.mg X.base k x st N a T) (hj : j + 1 ≤ k) (hr : Room (k + 1) X.A) (gu : X.A.guards = some []) (TB : TabB X.base X.mg c P) (hcode : X.env.code = .ref c) (hq : X.env.qual ++ "<lambda>" = q) (L : LamS X.env.scope scope) (hdef : defaultsOf params X.env = ([], []))
    (hbind : ∀ (q : Str) (cl : List (Str × Addr)) (pm cv ctv : Value), bindArgs (PySem.W.kla_fn "<lambda>" q params body scope cl pm cv ctv) ⟨[], []⟩ = pure [])
    (hgl : Sub g gl) (hsl : dataSl gl = true)
    (hbody : ∀ (f c' : Addr) (A : Around) (outer : List Env) (s : Shared) (H : Hp) (E : XK), Room j (A.deeper (lamEnv X scope s.heap.objs.size f c')) → A.guards = some [] → EJ (lamN X A outer s H E scope f c') ⟨fun c od _ H => E c od H, gl⟩ body gl y)
    (hg : Gl X x := by rfl) (hdb : (x == ("__debug__" : Str)) = false := by decide) (hd : (a == ("__debug__" : Str)) = false := by decide) (hcd : (a == ("__classdict__" : Str)) = false := by decide) :
    EJ (m := Z) X EX (.Call (.Name x p) [.Lambda params body scope lpos] [] pos) g (tabZ kc P q >>= fun _ => T y) := by
  refine ⟨fun pins s σ H Q I ⟨B, G, n, φ, ξ, o, sa, hQ, xw⟩ => ?_⟩
  obtain ⟨f0, fd, Fu, S, hm, hk, hbs, hN, hv, bdy⟩ := Fn.ex
  obtain ⟨oc, odf, kV, doc, pm0, an, cdv, ct, osl, rfl, lk, hcg⟩ := Fu.ex
  have sa' : n.ob[kc]? = some (.tab P q) ∧ Mo.sat (T y) n φ ξ := Mo.sat_bind sa
  obtain ⟨ht, sa2⟩ := sa'
  subst hq
  obtain ⟨gP, ps, hP, htr, hcs⟩ := o.tabAt ht
  have hkg : PySem.W.keepIn X.K (.ref f0) = true := hk
  refine wpAny_Call_Name_kw (ld_glob I hg hm ?_ hdb)
  refine PySem.W.callWith_K (h₀ := X.base) I.ok.mod.kin hkg ?_ (by rfl) (by rfl)
  show wpAny _ _ (spliced ((false, eval (.Lambda params body scope lpos) X.env) :: backTo pos (starEach [] X.env))) _ _ s
  have fin : ∀ (f c' : Addr) (pm ctv : Value) (s' : Shared) (H1 G1 : Hp), Ok X.K B g σ H1 G1 n → Same G G1 → G1 c' = some (CodeO c' (X.env.qual ++ "<lambda>")) → Inv X pins σ H1 s' → s'.heap.get? f = some (lamO X params body scope pm c' ctv) → H1 f = none → f ∉ frs X.stack →
      wpAny (model X.prog X.w) X.A (call (.ref f0) [.ref f]) (EP X pins σ Q) X.xe s' := fun f c' pm ctv s' H1 G1 o1 g1 hco I1 hf hfn hfr => by
    have ol := o1.forget hgl
    have rc : codeAny (model X.prog X.w) X.A (.call (.ref f0) ⟨[.ref f], []⟩) (CR CX0 X.stack X.prog X.w H1 s' Q E0) s' := by
      refine LamX.run_ofS (N := N) (ps := [a]) (us := [.ref f]) (vs := [.ref f]) lk hcg S hr I1.env0 (hbs s' [.ref f] I1.kIn rfl) (.cons rfl .nil) rfl fun hr' => ?_
      refine ⟨_, PSs.nox (bdy f (fun G' => Same G1 G') cdv X.A X.stack s' H1 E0 y hr' gu fun pn xe EX' gz p1 p2 tk sb hgz => ?_), ⟨H1, G1, B.dk, G1⟩, G1, n, φ, fun _ _ => False, ok_startL o1.fm.at_call (Same.refl _) (fun _ _ s2 s1 => s1.trans s2), Calm.calm sa2, fun v H' G' d n' f' dv p => ?_, fun _ σ' H' G' n' f' p => ?_, fun _ _ _ _ _ _ _ z => z.elim⟩
      · exact ej_act (CXg := CX0) (Eg := E0) (k := j) I1 L hf hfn hfr (hbind _ _ _ _ _) hco hsl ol.len ol.val tk sb (hr'.mono hj) gu (hbody f c') hgz hN hv hd hcd
      · obtain ⟨o2, g2⟩ := Fm.back o1 (.inr rfl) f'
        exact hQ v H' G' d n' o2 (g1.trans g2) dv p
      · obtain ⟨o2, g2⟩ := Fm.back o1 (.inr rfl) f'
        exact hQ .non H' G' .none n' o2 (g1.trans g2) .non p
    refine wpAny_call (codeAny_mono rc fun r s2 hq => ?_)
    cases r with
    | error e => exact (show False from hq).elim
    | ok fl =>
      cases fl with
      | ret u => exact I1.after hq
      | next => exact False.elim hq
      | brk => exact False.elim hq
      | cont => exact False.elim hq
  refine Calls.spliced_cons (lam_mk I TB hcode hdef (L.has I.ok) hP htr (fun pos cv h => by obtain ⟨c0, e, _⟩ := hcs pos cv h; exact ⟨c0, e⟩) (fun f c' pm ctv s' hc I1 hf hfn hfr => ?_) fun f c' pm ctv s' more hc ht2 ha2 I1 hf hfn hfr => ?_)
  · obtain ⟨c0, e, e2⟩ := hcs lpos _ hc
    cases e
    exact Calls.spliced_nil ⟨I1.kIn, fin f c' pm ctv s' H G o (Same.refl _) e2 I1 hf hfn hfr⟩
  · obtain ⟨o1, g1⟩ := o.tabGrow (more := more) ht hP hc ht2 ha2
    exact Calls.spliced_nil ⟨I1.kIn, fin f c' pm ctv s' _ _ o1 g1 upd_same I1 hf hfn hfr⟩
/-! ### the deck of three parts beside the table -/
def spLawT (K : PySem.W.Frag) (P : Addr) : Sp := fun vs H Q _ => ∃ (a : Addr) (ns : List Int), vs = [.ref a] ∧ SqL K H a (ns.map V.int) ∧ H P = some (.tbl #[]) ∧ ∀ H', Q (.bl true) H'
def deckP (x y z P : Addr) : Hp := fun a => if a = P then some (.met 3 4) else deckG x y z a
theorem deck_fmP {K : PySem.W.Frag} {x y z P : Addr} {q : Str} {H : Hp} {cs rs : List Int} (h1 : x ≠ y) (h2 : x ≠ z) (h3 : y ≠ z) (hx : H x = some (.lst [.ref y, .int 0, .ref z])) (hy : H y = some (.lst (cs.map V.int))) (hz : H z = some (.lst (rs.map V.int))) (hP : H P = some (.tbl #[])) :
    Fm K ⟨H, deckP x y z P, none, deckP x y z P⟩ H (deckP x y z P) ⟨0, deck3 0 cs rs ++ [.tab P q]⟩ := by
  have px : x ≠ P := fun e => by rw [e, hP] at hx; cases hx
  have py : y ≠ P := fun e => by rw [e, hP] at hy; cases hy
  have pz : z ≠ P := fun e => by rw [e, hP] at hz; cases hz
  have gx : deckP x y z P x = some (.met 0 0) := by unfold deckP; rw [if_neg px]; exact if_pos rfl
  have gy : deckP x y z P y = some (.met 1 1) := by unfold deckP deckG; rw [if_neg py, if_neg (Ne.symm h1), if_pos rfl]
  have gz : deckP x y z P z = some (.met 2 2) := by unfold deckP deckG; rw [if_neg pz, if_neg (Ne.symm h2), if_neg (Ne.symm h3), if_pos rfl]
  have gP : deckP x y z P P = some (.met 3 4) := if_pos rfl
  have cx : CellAt K (deckP x y z P) H x 0 (.lst [refL 1, .int 0, refL 2]) := ⟨gx, _, hx, .cons (.cel gy) (.cons (.int 0) (.cons (.cel gz) .nil))⟩
  have cy : CellAt K (deckP x y z P) H y 1 (.lst (cs.map .int)) := ⟨gy, _, hy, daInts cs⟩
  have cz : CellAt K (deckP x y z P) H z 2 (.lst (rs.map .int)) := ⟨gz, _, hz, daInts rs⟩
  have cP : CellAt K (deckP x y z P) H P 3 (.tab P q) := ⟨gP, rfl, #[], hP, True.intro, fun pos cv h => by
    have z : codeAmong pos [] = some cv := h
    simp [codeAmong] at z⟩
  have cases_ : ∀ {a : Addr} {u : HO}, deckP x y z P a = some u → (a = P ∧ u = .met 3 4) ∨ (a = x ∧ u = .met 0 0) ∨ (a = y ∧ u = .met 1 1) ∨ (a = z ∧ u = .met 2 2) := fun {a u} h => by
    unfold deckP at h
    split at h
    · rename_i e
      cases h
      exact .inl ⟨e, rfl⟩
    · rcases deckG_cases h with ⟨e, r⟩ | ⟨_, e, r⟩ | ⟨_, _, e, r⟩
      · exact .inr (.inl ⟨e, r⟩)
      · exact .inr (.inr (.inl ⟨e, r⟩))
      · exact .inr (.inr (.inr ⟨e, r⟩))
  have nn : ∀ a, H a = none → deckP x y z P a = none := fun a e => by
    cases q : deckP x y z P a with
    | none => rfl
    | some u =>
      rcases cases_ q with ⟨rfl, _⟩ | ⟨rfl, _⟩ | ⟨rfl, _⟩ | ⟨rfl, _⟩
      · rw [hP] at e; cases e
      · rw [hx] at e; cases e
      · rw [hy] at e; cases e
      · rw [hz] at e; cases e
  refine ⟨fun a u e _ => e, ⟨fun a u e m => ?_, nn⟩, Same.refl _, ⟨fun a u k e m => ?_, fun a b u w k e1 e2 m1 m2 => ?_, fun k c e => ?_⟩, nn, Same.refl _, fun a _ q => q, fun a b e => by cases e⟩
  · rcases cases_ e with ⟨_, rfl⟩ | ⟨_, rfl⟩ | ⟨_, rfl⟩ | ⟨_, rfl⟩ <;> cases m
  · rcases cases_ e with ⟨rfl, rfl⟩ | ⟨rfl, rfl⟩ | ⟨rfl, rfl⟩ | ⟨rfl, rfl⟩
    · obtain rfl : 3 = k := by simpa [mkOf] using m
      exact ⟨_, rfl, cP⟩
    · obtain rfl : 0 = k := by simpa [mkOf] using m
      exact ⟨_, rfl, cx⟩
    · obtain rfl : 1 = k := by simpa [mkOf] using m
      exact ⟨_, rfl, cy⟩
    · obtain rfl : 2 = k := by simpa [mkOf] using m
      exact ⟨_, rfl, cz⟩
  · rcases cases_ e1 with ⟨rfl, rfl⟩ | ⟨rfl, rfl⟩ | ⟨rfl, rfl⟩ | ⟨rfl, rfl⟩ <;> rcases cases_ e2 with ⟨rfl, rfl⟩ | ⟨rfl, rfl⟩ | ⟨rfl, rfl⟩ | ⟨rfl, rfl⟩ <;> first | rfl | (simp only [mkOf, Option.some.injEq] at m1 m2; omega)
  · match k, e with
    | 0, e => cases e; exact ⟨x, cx⟩
    | 1, e => cases e; exact ⟨y, cy⟩
    | 2, e => cases e; exact ⟨z, cz⟩
    | 3, e => cases e; exact ⟨P, cP⟩
    | k + 4, e => cases e
theorem fng_ofC {P : Program} {w : World} {K : PySem.W.Frag} {mg : Str → Option Value} {base : Heap} {k : Nat} {x qual : Str} {st : Stmt} {f : Addr} {fd : FuncData} {N ps : List Str} {sp : Sp} (F : Fun K x qual st f fd) (S : FnScope N ps (defScope st)) (len : ∀ vs H Q E, sp vs H Q E → vs.length = ps.length)
    {cv : Value} (hcv : fd.code = cv) (hb : ∀ (A : Around) (outer : List Env) (s : Shared) (H : Hp) (vs : List V) (Q : VK) (E : XK), Room k (A.deeper (envOfC qual (defScope st) s.heap.objs.size f cv)) → A.guards = some [] → sp vs H Q E →
      ∃ t, PSs (cxOf CX0 P w K mg base N qual (defScope st) f cv A outer s H E).nox (defBody st) t ∧ t { nx := fun _ H' => Q .non H', rt := Q } (start N vs) H) : FnG P w K mg base (k + 1) f fd ps sp := by
  obtain ⟨oc, od, kV, doc, pm, an, cdv, ct, osl, rfl, lk, hcd⟩ := F.ex
  obtain rfl : cdv = cv := hcv
  refine ⟨len, fun A outer s H args us vs Q E room gu e0 bi rv hsp => ?_⟩
  have KH : K.In s.heap := e0.mod.kin.keeps fun b o z => (e0.bs b o z).1
  have kinds : ∀ y ∈ ps.zip us, (defScope st).names.lookup y.1 = some .local ∨ ((defScope st).names.lookup y.1 = some .cell ∧ ((cellsFrom (s.heap.objs.size + 1) (defScope st).names []).lookup y.1).isSome = true) := by
    rintro ⟨nm, _⟩ hy
    exact (S.par nm (List.of_mem_zip hy).1).imp id fun z => ⟨z, PySem.W.cellsFrom_some _ _ _ (.inl z)⟩
  refine codeAny_call_function room.depth (KH _ _ lk) rfl S.co S.gen rfl (PySem.W.codeRec_of KH hcd) (bi _ _ _ _ (wpAny_newFunctionEnv_cells S.kind kinds fun env he s1 nw => ?_))
  subst he
  refine ⟨(e0.mod.nolimit.keeps fun b o z => (e0.bs b o z).1).keeps nw.toInCall.keep, codeAny_func ?_⟩
  obtain ⟨t, ht, hq⟩ := hb A outer s H vs Q E (room.deeper _) gu hsp
  refine wpAny_mono (ht.nox.run [] s1 (start N vs) H _ (inv_start S room.hd e0 (len _ _ _ _ hsp) rv nw) hq) (fun fl s' h => ?_) fun _ _ z => z
  cases fl with
  | ret u =>
    obtain ⟨v, _, H', J, r', q⟩ := h
    exact ⟨v, H', J.os, J.bare, J.base, J.hok, r', q⟩
  | next =>
    obtain ⟨_, H', J, q⟩ := h
    exact ⟨.non, H', J.os, J.bare, J.base, J.hok, rfl, q⟩
  | brk => obtain ⟨_, _, _, q⟩ := h; exact q.elim
  | cont => obtain ⟨_, _, _, q⟩ := h; exact q.elim
/-- the law: its first statement makes the deck, the rest runs by a mirror over worlds -/
theorem law_jT {P : Program} {w : World} {K : PySem.W.Frag} {mg : Str → Option Value} {base : Heap} {k : Nat} {x qual y z : Str} {st : Stmt} {f fk : Addr} {fd fkd : FuncData} {N : List Str} {px pn pc ps : Pos} {rest : List Stmt} {dx : Str} {pks : List Str} {M : Z D} {P9 : Addr} {q9 : Str} (Fu : Fun K x qual st f fd) {c9 : Addr} (hfc : fd.code = .ref c9) (S : FnScope N [y] (defScope st)) (Fk : FnG P w K mg base k fk fkd pks (spDeckZ K)) (bk : Binds K fkd pks []) (mk : mg dx = some (.ref fk))
    {pos : Pos} (hbody : defBody st = .Assign [.Name z px] (.Call (.Name dx pn) [.Name y pc] [] ps) pos :: rest) (hN0 : N[0]? = some y) (hN1 : N[1]? = some z)
    (hset : ∀ (cdv : Value) (A : Around) (outer : List Env) (s : Shared) (H : Hp) (E : XK), Room k (A.deeper (envOfC qual (defScope st) s.heap.objs.size f cdv)) → A.guards = some [] →
      PS (cxOf CX0 P w K mg base N qual (defScope st) f cdv A outer s H E).nox (.Assign [.Name z px] (.Call (.Name dx pn) [.Name y pc] [] ps) pos) (tAsg (fun σ H Q => tCons (tVar 0) tNil σ H fun vs H1 => spDeckZ K vs H1 Q E0) (gName 1)))
    (hrest : ∀ (A : Around) (outer : List Env) (s : Shared) (H : Hp) (E : XK), Room k (A.deeper (envOfC qual (defScope st) s.heap.objs.size f (.ref c9))) → A.guards = some [] →
      FJ (cxOf CX0 P w K mg base N qual (defScope st) f (.ref c9) A outer s H E).nox X0 true rest (.any :: .val (refL 0) :: List.replicate (N.length - 2) .any) M)
    (hM : ∀ cs rs : List Int, cs.length = rs.length → 0 < cs.length → cs.length ≤ 64 → (∀ r ∈ rs, 0 ≤ r) → M ⟨0, deck3 0 cs rs ++ [.tab P9 q9]⟩ (fun d _ => d = .bool true)) : FnG P w K mg base (k + 1) f fd [y] (spLawT K P9) := by
  refine fng_ofC Fu S (fun vs H Q E ⟨a, ns, e, _⟩ => by rw [e]; rfl) hfc fun A outer s H vs Q E hr gu ⟨a, ns, e, hS, hP9, hQ⟩ => ?_
  subst e
  rw [hbody]
  refine ⟨_, pss_cons (hset _ A outer s H E hr gu) (hrest A outer s H E hr gu), ?_⟩
  refine ⟨.ref a, ?_, a, ns, rfl, hS, fun x1 y1 z1 H' cs rs sm h1 h2 h3 hx hy hz hl h0 h64 hr0 => ?_⟩
  · unfold L2.start
    cases N with
    | nil => cases hN0
    | cons _ _ => rfl
  · have gx : deckP x1 y1 z1 P9 x1 = some (.met 0 0) := by
      unfold deckP
      rw [if_neg (fun e => by rw [e, sm _ _ hP9] at hx; cases hx)]
      exact if_pos rfl
    refine ⟨⟨H', deckP x1 y1 z1 P9, none, deckP x1 y1 z1 P9⟩, deckP x1 y1 z1 P9, ⟨0, deck3 0 cs rs ++ [.tab P9 q9]⟩, _, fun _ _ => False, ⟨deck_fmP h1 h2 h3 hx hy hz (sm _ _ hP9), ?_, fun i d e => ?_, ⟨fun _ => 0, fun i j ds es e => ?_, fun i ds e => ?_⟩, fun i e => ?_, fun i _ _ _ e2 => ?_, fun i _ _ e2 => ?_⟩, hM cs rs hl h0 h64 hr0, fun v H2 G2 d n2 _ dv p => ?_, fun _ σ2 H2 G2 n2 _ p => ?_, fun _ _ _ _ _ _ _ z => z.elim⟩
    · match N, hN1 with
      | n0 :: n1 :: N', _ => simp [L2.start]
    · match i with
      | 0 => cases e
      | 1 =>
        cases e
        refine ⟨.ref x1, ?_, .cel gx⟩
        match N, hN1 with
        | n0 :: n1 :: N', _ => simp [L2.start]
      | i + 2 =>
        simp only [List.getElem?_cons_succ] at e
        rw [List.getElem?_replicate] at e
        split at e <;> cases e
    · match i with
      | 0 => cases e
      | 1 => cases e
      | i + 2 =>
        simp only [List.getElem?_cons_succ] at e
        rw [List.getElem?_replicate] at e
        split at e <;> cases e
    · match i with
      | 0 => cases e
      | 1 => cases e
      | i + 2 =>
        simp only [List.getElem?_cons_succ] at e
        rw [List.getElem?_replicate] at e
        split at e <;> cases e
    · match i with
      | 0 => cases e
      | 1 => cases e
      | i + 2 =>
        simp only [List.getElem?_cons_succ] at e
        rw [List.getElem?_replicate] at e
        split at e <;> cases e
    · match i with
      | 0 => cases e2
      | 1 => cases e2
      | i + 2 =>
        simp only [List.getElem?_cons_succ] at e2
        rw [List.getElem?_replicate] at e2
        split at e2 <;> cases e2
    · match i with
      | 0 => cases e2
      | 1 => cases e2
      | i + 2 =>
        simp only [List.getElem?_cons_succ] at e2
        rw [List.getElem?_replicate] at e2
        split at e2 <;> cases e2
    · subst p
      cases dv
      exact hQ H2
    · cases p
/-! ### the law's call beside an empty table -/
def tabO : Obj := { cls := .none, data := .fields #[] }
def scrT (K : PySem.W.Frag) (a P : Addr) (vs : List Value) (ns : List Int) : Hp := fun b => if b = P then some (.tbl #[]) else scrH K a vs ns b
theorem call_lawT {P : Program} {w : World} {K : PySem.W.Frag} {mg mb : Str → Option Value} {k : Nat} {fa a c9 P9 : Addr} {fd : FuncData} {x : Str} {s : Shared} {vs : List Value} {ns : List Int}
    (KX : K.In s.heap) (hns : s.heap.Ns mainGlobals mg) (hb : s.heap.Ns builtinsNs mb) (hbb : ∀ y : Str, y ≠ "__name__" → mb y = bootBuiltins y) (hlim : s.heap.NoLimit) (hy : SysAt s.heap) (hg : s.gens = #[])
    (hP : s.heap.get? P9 = some tabO) (nP : K.lookup P9 = none) (hC : PySem.W.CodeHd s.heap c9 P9)
    (hbm : ∃ (bm : Addr) (ob : Obj), mg "__builtins__" = some (.ref bm) ∧ bm ≠ builtinsNs ∧ s.heap.get? bm = some ob ∧ ob.cls = .type "module" ∧ ob.dict = some builtinsNs ∧ ob.data = .plain)
    (ha : s.heap.get? a = some (scrO vs)) (hi : IntsAre vs ns) (hl : ns.length ≤ sizeLine) (hr : Room k callerA)
    (F : ∀ base : Heap, K.In base → base.Ns mainGlobals mg → SysAt base → TabB base mg c9 P9 → FnG P w K mg base k fa fd [x] (spLawT K P9)) (hbind : ∀ (s : Shared) (u : Value), BindsTo s fd ⟨[u], []⟩ [(x, u)]) :
    codeAny (model P w) callerA (.call (.ref fa) ⟨[.ref a], []⟩) (fun r s' => r = .ok (.ret (.bool true)) ∧ OldK s.heap s'.heap ∧ s'.os = s.os ∧ AllBare s'.gens) s := by
  have naP : a ≠ P9 := fun e => by
    rw [e, hP] at ha
    have z := congrArg Obj.data (Option.some.inj ha)
    cases z
  have at_ : ∀ {b : Addr} {u : HO}, scrT K a P9 vs ns b = some u → (b = P9 ∧ u = .tbl #[]) ∨ (b = a ∧ K.lookup a = none ∧ u = .frz (scrO vs) (.lst (ns.map V.int))) := fun {b u} h => by
    unfold scrT at h
    split at h
    · rename_i e
      cases h
      exact .inl ⟨e, rfl⟩
    · exact .inr (scr_at h)
  have hok : HOk P w (scrT K a P9 vs ns) s.heap := fun b u z => by
    rcases at_ z with ⟨rfl, rfl⟩ | ⟨rfl, _, rfl⟩
    · exact hP
    · exact ⟨ha, by rw [List.length_map]; exact hl, vs, _, vals_ints hi, ha⟩
  have noA : ∀ {b : Addr} {o : Obj}, s.heap.get? b = some o → (∀ vs n, o.data ≠ .seq vs n) → o.data ≠ .fields #[] → scrT K a P9 vs ns b = none := fun {b o} e h1 h2 => by
    cases q : scrT K a P9 vs ns b with
    | none => rfl
    | some u =>
      rcases at_ q with ⟨rfl, _⟩ | ⟨rfl, _, _⟩
      · rw [hP] at e
        cases e
        exact (h2 rfl).elim
      · rw [ha] at e
        cases e
        exact (h1 _ _ rfl).elim
  have noD : ∀ {b : Addr} {o : Obj} {es : Array DictEntry} {ep : Nat}, s.heap.get? b = some o → o.data = .dict es ep → scrT K a P9 vs ns b = none := fun {b o es ep} e d => noA e (fun vs n z => by rw [d] at z; cases z) fun z => by rw [d] at z; cases z
  have nsK : ∀ {b : Addr} {m : Str → Option Value}, s.heap.Ns b m → (hidT s.heap (scrT K a P9 vs ns)).Ns b m := fun ⟨o, es, ep, e, d, r⟩ => ⟨o, es, ep, hidT_get e (noD e d), d, r⟩
  have hKb : K.In (hidT s.heap (scrT K a P9 vs ns)) := fun b o e => hidT_get (KX b o e) (by
    cases q : scrT K a P9 vs ns b with
    | none => rfl
    | some u =>
      rcases at_ q with ⟨rfl, _⟩ | ⟨rfl, hn, _⟩
      · rw [nP] at e
        cases e
      · rw [hn] at e
        cases e)
  have hyb : SysAt (hidT s.heap (scrT K a P9 vs ns)) := let ⟨o, es, ep, e, d⟩ := hy; ⟨o, es, ep, hidT_get e (noD e d), d⟩
  have TB : TabB (hidT s.heap (scrT K a P9 vs ns)) mg c9 P9 := by
    refine ⟨?_, ?_, fun z => ?_⟩
    · obtain ⟨o, us, file, tf, flags, tg, inF, text, tt, e1, r1, r2, r3, r⟩ := hC
      refine ⟨o, us, file, tf, flags, tg, inF, text, tt, hidT_get e1 (noA e1 (fun vs n z => ?_) fun z => ?_), r1, r2, r3, r⟩
      · rw [r2] at z; cases z
      · rw [r2] at z
        cases z
        simp at r3
    · obtain ⟨bm, ob, b1, b2, b3, b4, b5, b6⟩ := hbm
      have nG : bm ≠ mainGlobals := fun q => by
        obtain ⟨o, es, ep, e, hd, _⟩ := hns
        rw [q, e] at b3
        cases b3
        rw [hd] at b6
        cases b6
      have nB : bm ≠ P9 := fun q => by
        rw [q, hP] at b3
        cases b3
        cases b6
      exact ⟨bm, ob, b1, b2, nG, nB, hidT_get b3 (noA b3 (fun vs n z => by rw [b6] at z; cases z) fun z => by rw [b6] at z; cases z), b4, b5, b6⟩
    · obtain ⟨o, es, ep, e, hd, _⟩ := hns
      rw [z, hP] at e
      cases e
      cases hd
  have hM : Mod K mg (hidT s.heap (scrT K a P9 vs ns)) := ⟨hKb, nsK hns, ⟨mb, nsK hb, hbb⟩, let ⟨mc, h1, h2⟩ := hlim; ⟨mc, nsK h1, h2⟩⟩
  have nil : ∀ b : Addr, ¬ b ∈ frs ([] : List Env) := fun b h => by simp [frs] at h
  have e0 : Env0 P w K mg (hidT s.heap (scrT K a P9 vs ns)) callerA [] s (scrT K a P9 vs ns) := ⟨rfl, hM, fun b o e => of_hidT e, Nat.le_of_eq (hidT_size _ _), trivial, fun b h => absurd h (nil b), hok, .of_eq hg⟩
  have sq : SqL K (scrT K a P9 vs ns) a (ns.map V.int) := by
    rcases scr_seq KX ha hi hl with (h | ⟨o, h⟩) | h
    · exact .inl (.inl (by unfold scrT; rw [if_neg naP]; exact h))
    · exact .inl (.inr ⟨o, by unfold scrT; rw [if_neg naP]; exact h⟩)
    · exact .inr h
  refine codeAny_mono ((F _ hKb (nsK hns) hyb TB).run callerA [] s _ ⟨[.ref a], []⟩ [.ref a] [.ref a] (fun v _ => v = .bl true) E0 hr rfl e0 (hbind s (.ref a)) (.cons rfl .nil) ⟨a, ns, rfl, sq, if_pos rfl, fun _ => rfl⟩) fun r s' h => ?_
  match r, h with
  | .error _, h => exact False.elim h
  | .ok (.ret u), ⟨v, H', os, bare, un, hok', r', q⟩ =>
    have q' : v = .bl true := q
    subst q'
    obtain rfl : u = Value.bool true := r'
    have key : ∀ b o, b ≠ P9 → s.heap.get? b = some o → s'.heap.get? b = some o := fun b o nb e => by
      cases q : scrT K a P9 vs ns b with
      | none => exact un.keep b o e q (nil b) (by simp)
      | some z =>
        rcases at_ q with ⟨z, _⟩ | ⟨rfl, _, rfl⟩
        · exact absurd z nb
        · rw [ha] at e
          cases e
          exact (hok' _ _ (un.frzs _ _ _ q)).1
    obtain ⟨more, hmore⟩ := un.tbls P9 #[] (if_pos rfl)
    have hm : s'.heap.get? P9 = some { cls := .none, data := .fields (#[] ++ more) } := hok' P9 _ hmore
    refine ⟨rfl, ⟨fun b o e => ?_, fun b o e => ?_⟩, os, bare⟩
    · by_cases hb : b = P9
      · subst hb
        rw [hP] at e
        cases e
        exact .inr (.inl ⟨(hC.tab hP).isCodeTable, rfl, #[], more, rfl, hm⟩)
      · exact .inl (key b o hb e)
    · by_cases hb : b = P9
      · subst hb
        exact ⟨_, hm⟩
      · exact ⟨o, key b o hb e⟩
theorem walk_gT {l : PySem.W.OpenLaw} {n k : Nat} {q : Program} {loose : List Str} {XP : (Str → Option Value) → Heap → Prop} {YP : World → Heap → Prop} {d : DefRec} {K0 K : Params → PySem.W.Frag} {x : Str} {c9 P9 : Addr}
    (hn : l.most = some n) (hn2 : n ≤ sizeLine) (hdf : d.params.defaults = []) (hr : Room k callerA) (himp : importsNone q = true) (hY : ∀ (w : World) (h : Heap), YP w h → (K0 w.params).In h) (hK0 : ∀ p : Params, K0 p = (P9, tabO) :: K p) (hnP : ∀ p : Params, (K p).lookup P9 = none) (hcd : ∀ p : Params, PySem.W.codeHdIn (K p) c9 P9 = true)
    (F : ∀ (w : World) (mg : Str → Option Value) (fa : Addr) (h : Heap), (K w.params).In h → h.Ns mainGlobals mg → mg d.name = some (.ref fa) →
      ∃ fd : FuncData, (∀ (s : Shared) (u : Value), BindsTo s fd ⟨[u], []⟩ [(x, u)]) ∧ ∀ base : Heap, (K w.params).In base → base.Ns mainGlobals mg → SysAt base → TabB base mg c9 P9 → FnG l.prog w (K w.params) mg base k fa fd [x] (spLawT (K w.params) P9)) :
    PySem.W.WalkO q loose XP YP l.row.toRowW d [] (fun f vs => PySem.call f vs) := by
  refine Att.attach_call hn hdf fun w s0 s1 mg mb fa o pm cd doc a vs ns G Y ho hd hcd' hmg hobj hints hlen hg => ?_
  have X0 := hY w _ Y
  have XK : (K w.params).In s1.heap := fun b o e => X0 b o (by
    rw [hK0]
    show (match b == P9 with | true => some tabO | false => (K w.params).lookup b) = some o
    cases hb : (b == P9) with
    | true => rw [beq_iff_eq.mp hb, hnP] at e; cases e
    | false => exact e)
  have hP : s1.heap.get? P9 = some tabO := X0 P9 tabO (by
    rw [hK0]
    show (match P9 == P9 with | true => some tabO | false => (K w.params).lookup P9) = some tabO
    rw [beq_self_eq_true])
  obtain ⟨fd, hb, hF⟩ := F w mg fa _ XK G.T.g hmg
  have hy : SysAt s1.heap := let ⟨_, ⟨o, es, ep, e, d, _⟩, _⟩ := (G.T.seer himp).mods; ⟨o, es, ep, e, d⟩
  exact call_lawT XK G.T.g G.T.b G.T.builtins G.T.nolimit hy hg hP (hnP _) (PySem.W.codeHd_of_K XK (hcd _)) G.T.bmain hobj hints (Nat.le_trans hlen hn2) hr hF hb
end DD
namespace DD
open PySem PySem.Spec PyProof.Rows L2
def top (i : Nat) : Stmt := PySem.Challenge.pw_darkdrawers_k22_next_drawers.main.body.getD i (.Pass ⟨0, 0, 0, 0⟩)
abbrev i_TooLarge : Stmt := (clsBody (top 3)).getD 0 (.Pass ⟨0, 0, 0, 0⟩)
theorem sci_TooLarge : FnScope ["self", "bound"] ["self", "bound"] (defScope i_TooLarge) := ⟨rfl, rfl, rfl, by decide +kernel, rfl, by decide +kernel, by decide +kernel⟩
section
variable {P : Program} {w : World} {K : PySem.W.Frag} {mg : Str → Option Value} {base : Heap}
abbrev s__law_draws : Stmt := top 22
theorem sc__law_draws : FnScope ["_law_script", "_law_cells", "_law_cell"] ["_law_script"] (defScope s__law_draws) := ⟨rfl, rfl, rfl, by decide +kernel, rfl, by decide +kernel, by decide +kernel⟩
theorem ok__law_draws {f : Addr} {fd : FuncData} (F : Fun K "_law_draws" "_law_draws" s__law_draws f fd) (ml : mg "list" = none) (mi : mg "int" = none) (mn : mg "len" = none) : FnG P w K mg base 1 f fd ["_law_script"] (spDeckZ K) := by
  have sc := sc__law_draws
  refine fng_of F sc (fun vs H Q E ⟨a, ns, e, _⟩ => by rw [e]; rfl) fun cdv A outer s H vs Q E hr gu ⟨a, ns, e, hS, q⟩ => ?_
  subst e
  refine ⟨_, pss_cons (ps_set (i := 1) sc.nd rfl (by first | exact Or.inl rfl | exact Or.inr rfl)
    (pe_op op_cat (pe_callTy call_list_of (by rfl) ml boot_list (pa_cons (pe_slice sl_list (pv 0) po_none (po_some pe_int)) pa_nil))
      (pe_op op_rep (pe_lst (pa_cons pe_int pa_nil)) (pe_callTy call_int1 (by rfl) mi (by decide +kernel) (pa_cons (pe_cmpR op_eq (pe_callB call_len_seq (by rfl) mn PySem.boot_len (pa_cons (pv 0) pa_nil)) pe_int (nomark _)) pa_nil)))))
    (pss_one (ps_ret (pe_lst (pa_cons (pv 1) (pa_cons pe_int (pa_cons (pe_lc (own := [("_law_cell", 2)]) rfl sc.nd (pi_list (pv 1)) (blk_of (by kernel_rfl)) (fun _ _ _ _ _ => pg_name (i := 2) sc.nd rfl (.inl rfl)) (fun _ _ _ _ _ => pts_nil)
      (fun _ _ _ _ _ => pe_op op_mul (pv 2) (pe_callTy call_int1 (by rfl) mi (by decide +kernel) (pa_cons (pe_cmpR op_ge (pv 2) (pe_op op_pow pe_int pe_int) (nomark _)) pa_nil)))) pa_nil)))))), ?_⟩
  refine ⟨.ref a, rfl, 63, rfl, a, _, rfl, hS, fun p hp => ⟨p, _, rfl, .inl (SqL.of upd_same), fun l hl => ?_⟩⟩
  rw [cut63_eq] at hl ⊢
  have sm1 : Same H (upd (upd H p (.lst ((ns.take 63).map V.int))) l (.lst ((ns.take 63).map V.int))) := (same_new hp _).trans (same_new hl _)
  refine ⟨by show 1 ≤ sizeLine; decide, fun z hz => ?_⟩
  have sm2 := sm1.trans (same_new hz (.lst [V.int 0]))
  refine ⟨.ref a, rfl, a, _, rfl, .inl (sm2.seq hS), ?_⟩
  refine ⟨rfl, .inr ⟨_, rfl, ?_⟩⟩
  have hk : (if decide (V.int ((ns.map V.int).length : Nat) = V.int 0) = true then (1 : Int) else 0) = if ns.length = 0 then 1 else 0 := by
    rw [List.length_map]
    by_cases h : ns.length = 0
    · rw [if_pos h, h]; rfl
    · rw [if_neg h, if_neg]
      intro h2
      have := of_decide_eq_true h2
      injection this with this
      omega
  rw [hk]
  have hne_lz : l ≠ z := fun e => by rw [← e, upd_same] at hz; cases hz
  refine ⟨z, _, [V.int 0], rfl, rfl, upd_same, by split <;> decide, by split <;> decide, by split <;> decide, fun r hr => ?_⟩
  have hrep : (List.replicate (if ns.length = 0 then (1 : Int) else 0).toNat [V.int 0]).flatten = (if ns.length = 0 then [(0 : Int)] else []).map V.int := by
    split <;> rfl
  rw [hrep]
  have hne_lr : l ≠ r := fun e => by rw [← e, upd_ne hne_lz, upd_same] at hr; cases hr
  have sm3 := sm2.trans (same_new hr (.lst ((if ns.length = 0 then [(0 : Int)] else []).map V.int)))
  refine ⟨l, r, (ns.take 63).map V.int, (if ns.length = 0 then [(0 : Int)] else []).map V.int, rfl, rfl, by rw [upd_ne hne_lr, upd_ne hne_lz, upd_same], upd_same, ?_, fun y hy => ?_⟩
  · rw [List.length_map, List.length_map, List.length_take]
    refine line63 ?_
    split <;> simp <;> omega
  have hcs : (ns.take 63).map V.int ++ (if ns.length = 0 then [(0 : Int)] else []).map V.int = (csOf id ns).map V.int := by unfold csOf; rw [List.map_append, List.map_id]
  rw [hcs]
  have sm4 := sm3.trans (same_new hy (.lst ((csOf id ns).map V.int)))
  obtain ⟨c0, c64⟩ := csOf_len id ns
  generalize csOf id ns = cs at *
  generalize hHH : upd _ y (HO.lst (cs.map V.int)) = HH at *
  have hyy : HH y = some (.lst (cs.map V.int)) := by rw [← hHH, upd_same]
  refine ⟨.ref y, rfl, .ref y, rfl, y, rfl, ⟨_, SqL.of hyy⟩, fun A hA => ?_⟩
  have hyA : y ≠ A := fun e => by rw [← e, hyy] at hA; cases hA
  refine ⟨fun i m H2 => i ≤ cs.length ∧ m + i = cs.length ∧ H2 A = some (.lst (((cs.take i).map big18).map V.int)) ∧ H2 y = some (.lst (cs.map V.int)) ∧ Same H H2, ⟨cs.length, Nat.zero_le _, rfl, upd_same, by rw [upd_ne hyA]; exact hyy, sm4.trans (same_new hA _)⟩, ?_⟩
  rintro i m H2 ⟨e0, e2, e4, e5, e6⟩
  by_cases hi : i = cs.length
  · refine .inl ⟨⟨_, SqL.of e5, by rw [List.length_map]; omega⟩, (by show 3 ≤ sizeLine; decide), fun x hx => ?_⟩
    have hxA : A ≠ x := fun e => by rw [← e, e4] at hx; cases hx
    have hxy : y ≠ x := fun e => by rw [← e, e5] at hx; cases hx
    rw [hi, List.take_length] at e4
    exact q x y A _ cs (cs.map big18) (e6.trans (same_new hx _)) hxy.symm hxA.symm hyA upd_same (by rw [upd_ne hxy]; exact e5) (by rw [upd_ne hxA]; exact e4) (by rw [List.length_map]) c0 c64 fun r hr => by
      obtain ⟨v, _, rfl⟩ := List.mem_map.mp hr
      exact big18_ge v
  · have hi' : i < cs.length := by omega
    refine .inr ⟨⟨_, .int cs[i], SqL.of e5, by rw [List.getElem?_map, List.getElem?_eq_getElem hi']; rfl⟩, fun H' => i + 1 ≤ cs.length ∧ (m - 1) + (i + 1) = cs.length ∧ H' A = some (.lst (((cs.take (i + 1)).map big18).map V.int)) ∧ H' y = some (.lst (cs.map V.int)) ∧ Same H H', fun H' h => ⟨m - 1, by omega, h⟩, ?_⟩
    rintro x H' ⟨rfl, hz'⟩
    have hx := hz' _ (SqL.of e5)
    rw [List.getElem?_map, List.getElem?_eq_getElem hi'] at hx
    cases hx
    refine ⟨by simp [wipe], ?_⟩
    refine ⟨.int cs[i], by simp [wipe, L2.start], .int cs[i], by simp [wipe, L2.start], 10, 18, rfl, rfl, ⟨by decide, by decide, by decide⟩, cs[i], _, rfl, rfl, .inr ⟨_, rfl, cs[i], _, rfl, rfl, .inr (by split <;> decide), ?_⟩⟩
    refine ⟨((cs.take i).map big18).map V.int, e4, ?_, by omega, by omega, ?_, by rw [upd_ne hyA]; exact e5, ?_⟩
    · rw [List.length_map, List.length_map, List.length_take]
      exact Nat.lt_of_lt_of_le (show _ < 1000 by omega) (line63 (Nat.le_refl _))
    · rw [upd_same, List.take_succ, List.getElem?_eq_getElem hi', List.map_append, List.map_append]
      rfl
    · intro b o hb
      by_cases hbA : b = A
      · subst hbA
        have := sm4 _ _ hb
        rw [hA] at this
        cases this
      · rw [upd_ne hbA]
        exact e6 b o hb
abbrev s_totals_of : Stmt := top 10
theorem sc_totals_of : FnScope ["stock", "counts"] ["stock"] (defScope s_totals_of) := ⟨rfl, rfl, rfl, by decide +kernel, rfl, by decide +kernel, by decide +kernel⟩
def m_totals_of (p_stock : D) : Option D := (op1 tupleD (lstM (comp1 (zipSM (pure p_stock)) (fun c127 => (op1 sumD (pure c127))))))
def M_totals_of : List Sl → Option D := ar1 m_totals_of
theorem ok_totals_of {f : Addr} {fd : FuncData} (F : Fun K "totals_of" "totals_of" s_totals_of f fd) (hy : SysAt base) (mb_sum : mg "sum" = none) (mb_tuple : mg "tuple" = none) (mb_zip : mg "zip" = none) : FnG P w K mg base 1 f fd ["stock"] (spJ K M_totals_of) := by
  have sc := sc_totals_of
  exact fn_ar1 F sc rfl fun p_stock cdv A outer s H E hr gu => (fj_ret (ej_callT call_tuple_of rc_tuple mb_tuple (ej_l (LcP.expr (lj_lc1 [("counts", 1)] 1 sc.nd (ij_zipS mb_zip (ej_vk 0)) (blk_of (by kernel_rfl)) (fun _ _ _ _ _ => pg_name (i := 1) sc.nd rfl (by first | exact Or.inl rfl | exact Or.inr rfl)) (fun _ _ _ _ _ c127 => (ej_call1 (call_sumD rfl) rc_sum mb_sum (ej_vk 1))))))))
abbrev s_sizes_of : Stmt := top 11
theorem sc_sizes_of : FnScope ["stock", "drawer"] ["stock"] (defScope s_sizes_of) := ⟨rfl, rfl, rfl, by decide +kernel, rfl, by decide +kernel, by decide +kernel⟩
def m_sizes_of (p_stock : D) : Option D := (op1 tupleD (lstM (comp1 (seqM (pure p_stock)) (fun c128 => (op1 sumD (pure c128))))))
def M_sizes_of : List Sl → Option D := ar1 m_sizes_of
theorem ok_sizes_of {f : Addr} {fd : FuncData} (F : Fun K "sizes_of" "sizes_of" s_sizes_of f fd) (hy : SysAt base) (mb_sum : mg "sum" = none) (mb_tuple : mg "tuple" = none) : FnG P w K mg base 1 f fd ["stock"] (spJ K M_sizes_of) := by
  have sc := sc_sizes_of
  exact fn_ar1 F sc rfl fun p_stock cdv A outer s H E hr gu => (fj_ret (ej_callT call_tuple_of rc_tuple mb_tuple (ej_l (LcP.expr (lj_lc1 [("drawer", 1)] 1 sc.nd (ij_seq (ej_vk 0)) (blk_of (by kernel_rfl)) (fun _ _ _ _ _ => pg_name (i := 1) sc.nd rfl (by first | exact Or.inl rfl | exact Or.inr rfl)) (fun _ _ _ _ _ c128 => (ej_call1 (call_sumD rfl) rc_sum mb_sum (ej_vk 1))))))))
abbrev s_contains : Stmt := top 13
theorem sc_contains : FnScope ["counts", "collection", "number", "needed"] ["counts", "collection"] (defScope s_contains) := ⟨rfl, rfl, rfl, by decide +kernel, rfl, by decide +kernel, by decide +kernel⟩
def m_contains (p_counts p_collection : D) : Option D := (op1 allD (lstM (comp2 (zip2M (pure p_counts) (pure p_collection)) (fun c129 c130 => (op2 geD (pure c129) (pure c130))))))
def M_contains : List Sl → Option D := ar2 m_contains
theorem ok_contains {f : Addr} {fd : FuncData} (F : Fun K "contains" "contains" s_contains f fd) (hy : SysAt base) (mb_all : mg "all" = none) (mb_zip : mg "zip" = none) : FnG P w K mg base 1 f fd ["counts", "collection"] (spJ K M_contains) := by
  have sc := sc_contains
  exact fn_ar2 F sc rfl fun p_counts p_collection cdv A outer s H E hr gu => (fj_ret (ej_call1 (cr_all rfl) rc_all mb_all (ej_l (LcP.expr (lj_lc2 [("number", 2), ("needed", 3)] 2 3 sc.nd (ij_zip2 mb_zip (ej_vk 0) (ej_vk 1)) (blk_of (by kernel_rfl)) (fun _ _ _ _ _ => pg_tup rfl (pgs_cons (pg_name (i := 2) sc.nd rfl (by first | exact Or.inl rfl | exact Or.inr rfl)) (pgs_cons (pg_name (i := 3) sc.nd rfl (by first | exact Or.inl rfl | exact Or.inr rfl)) pgs_nil))) (fun _ _ _ _ _ c129 c130 => (ej_cmp op_ge rd_ge (ej_vk 2) (ej_vk 3))))))))
abbrev s_added : Stmt := top 16
theorem sc_added : FnScope ["counts", "others", "one", "other"] ["counts", "others"] (defScope s_added) := ⟨rfl, rfl, rfl, by decide +kernel, rfl, by decide +kernel, by decide +kernel⟩
def m_added (p_counts p_others : D) : Option D := (op1 tupleD (lstM (comp2 (zip2M (pure p_counts) (pure p_others)) (fun c131 c132 => (op2 addD (pure c131) (pure c132))))))
def M_added : List Sl → Option D := ar2 m_added
theorem ok_added {f : Addr} {fd : FuncData} (F : Fun K "added" "added" s_added f fd) (hy : SysAt base) (mb_tuple : mg "tuple" = none) (mb_zip : mg "zip" = none) : FnG P w K mg base 1 f fd ["counts", "others"] (spJ K M_added) := by
  have sc := sc_added
  exact fn_ar2 F sc rfl fun p_counts p_others cdv A outer s H E hr gu => (fj_ret (ej_callT call_tuple_of rc_tuple mb_tuple (ej_l (LcP.expr (lj_lc2 [("one", 2), ("other", 3)] 2 3 sc.nd (ij_zip2 mb_zip (ej_vk 0) (ej_vk 1)) (blk_of (by kernel_rfl)) (fun _ _ _ _ _ => pg_tup rfl (pgs_cons (pg_name (i := 2) sc.nd rfl (by first | exact Or.inl rfl | exact Or.inr rfl)) (pgs_cons (pg_name (i := 3) sc.nd rfl (by first | exact Or.inl rfl | exact Or.inr rfl)) pgs_nil))) (fun _ _ _ _ _ c131 c132 => (ej_bin op_addD rd_add (ej_vk 2) (ej_vk 3))))))))
abbrev s_without_thing : Stmt := top 17
theorem sc_without_thing : FnScope ["stock", "drawer", "kind", "counts", "less"] ["stock", "drawer", "kind"] (defScope s_without_thing) := ⟨rfl, rfl, rfl, by decide +kernel, rfl, by decide +kernel, by decide +kernel⟩
def m_without_thing (p_stock p_drawer p_kind : D) : Option D := ((op2 getD (pure p_stock) (pure p_drawer)) >>= fun v133 => ((tupSM (starM (slcM (pure v133) (pure none) (partM (pure p_kind))) (consM (op2 subD (op2 getD (pure v133) (pure p_kind)) (pure (.int 1))) (starM (slcM (pure v133) (partM (op2 addD (pure p_kind) (pure (.int 1)))) (pure none)) (pure []))))) >>= fun v134 => (tupSM (starM (slcM (pure p_stock) (pure none) (partM (pure p_drawer))) (consM (pure v134) (starM (slcM (pure p_stock) (partM (op2 addD (pure p_drawer) (pure (.int 1)))) (pure none)) (pure [])))))))
def M_without_thing : List Sl → Option D := ar3 m_without_thing
theorem ok_without_thing {f : Addr} {fd : FuncData} (F : Fun K "without_thing" "without_thing" s_without_thing f fd) (hy : SysAt base) : FnG P w K mg base 1 f fd ["stock", "drawer", "kind"] (spJ K M_without_thing) := by
  have sc := sc_without_thing
  exact fn_ar3 F sc rfl fun p_stock p_drawer p_kind cdv A outer s H E hr gu => (fj_seq (sj_set 3 sc.nd (ej_ix ix_seq rd_ix (ej_vk 0) (ej_vk 1) (fun _ _ => rfl))) (fun v133 => (fj_seq (sj_set 4 sc.nd (ej_tupS (dj_star (ej_slice (ej_vk 3) oj_none (oj_some (ej_vk 2))) (dj_cons (ej_bin op_sub rd_sub (ej_ix ix_seq rd_ix (ej_vk 3) (ej_vk 2) (fun _ _ => rfl)) ej_int) (dj_star (ej_slice (ej_vk 3) (oj_some (ej_bin op_addD rd_add (ej_vk 2) ej_int)) oj_none) dj_nil))))) (fun v134 => (fj_ret (ej_tupS (dj_star (ej_slice (ej_vk 0) oj_none (oj_some (ej_vk 1))) (dj_cons (ej_vk 4) (dj_star (ej_slice (ej_vk 0) (oj_some (ej_bin op_addD rd_add (ej_vk 1) ej_int)) oj_none) dj_nil)))))))))
abbrev s_Search____init__ : Stmt := (clsBody (top 18)).getD 0 (.Pass ⟨0, 0, 0, 0⟩)
theorem sc_Search____init__ : FnScope ["self", "collections", "totals"] ["self", "collections", "totals"] (defScope s_Search____init__) := ⟨rfl, rfl, rfl, by decide +kernel, rfl, by decide +kernel, by decide +kernel⟩
def m_Search____init__ (p_self p_collections p_totals : D) : Z D := (((pure p_collections) >>= fun v => (pure p_self) >>= fun d => OverZ.up (setAZ "Search" "needs" d v)) >>= fun v135 => (((pure p_totals) >>= fun v => (pure p_self) >>= fun d => OverZ.up (setAZ "Search" "totals" d v)) >>= fun v136 => (((OverZ.up newK) >>= fun v => (pure p_self) >>= fun d => OverZ.up (setAZ "Search" "known" d v)) >>= fun v137 => (pure .none))))
def M_Search____init__ : List Sl → Z D := ar3 m_Search____init__
theorem ok_Search____init__ {f : Addr} {fd : FuncData} (F : Fun K "__init__" "Search.__init__" s_Search____init__ f fd) (hy : SysAt base) (hn_Search_known : HasNo K "Search" "known") (hn_Search_needs : HasNo K "Search" "needs") (hn_Search_totals : HasNo K "Search" "totals") : FnG P w K mg base 1 f fd ["self", "collections", "totals"] (spJ K M_Search____init__) := by
  have sc := sc_Search____init__
  exact fn_ar3 F sc rfl fun p_self p_collections p_totals cdv A outer s H E hr gu => (fj_seq (sj_attrZ hn_Search_needs (ej_vk 1) (ej_vk 0)) (fun v135 => (fj_seq (sj_attrZ hn_Search_totals (ej_vk 2) (ej_vk 0)) (fun v136 => (fj_seq (sj_attrZ hn_Search_known ej_newK (ej_vk 0)) (fun v137 => fj_nil))))))
abbrev s__law_next : Stmt := top 23
theorem sc__law_next : FnScope ["_law_drawn", "_law_many", "_law_cells", "_law_nth", "_law_rests", "_law_spot", "_law_digit", "_law_mixed", "_law_more"] ["_law_drawn", "_law_many"] (defScope s__law_next) := ⟨rfl, rfl, rfl, by decide +kernel, rfl, by decide +kernel, by decide +kernel⟩
def m__law_next (p_deck p_many : D) : Z D := (((pure p_deck) >>= fun d => tripZ d) >>= fun v138 => ((op2 modD (pure v138.2.1) ((pure v138.1) >>= fun d => lenZ d)) >>= fun v139 => (((op2 addD (pure v138.2.1) (pure (.int 1))) >>= fun v => (pure p_deck) >>= fun d => (pure (.int 1)) >>= fun j => setZ d j v) >>= fun v140 => (iteM (cmp2 gtD ((pure v138.2.2) >>= fun d => (pure v139) >>= fun j => ixZ d j) (pure (.int 0))) ((op2 modD ((pure v138.2.2) >>= fun d => (pure v139) >>= fun j => ixZ d j) (pure p_many)) >>= fun v141 => (((op2 divD ((pure v138.2.2) >>= fun d => (pure v139) >>= fun j => ixZ d j) (pure p_many)) >>= fun v => (pure v138.2.2) >>= fun d => (pure v139) >>= fun j => setZ d j v) >>= fun v142 => (pure v141))) ((op2 modD (op2 powD (op2 addD (op2 addD (op2 modD ((pure v138.1) >>= fun d => (pure v139) >>= fun j => ixZ d j) (pure (.int 2147483647))) (op2 mulD (pure (.int 69621)) (pure v138.2.1))) (pure (.int 30269))) (pure (.int 3))) (pure (.int 2147483629))) >>= fun v143 => ((op2 modD (op2 powD (op2 addD (op2 addD (pure v143) (op2 mulD (op2 mulD (pure (.int 6007)) (pure v138.2.1)) (pure v138.2.1))) (pure (.int 17))) (pure (.int 3))) (pure (.int 2147483587))) >>= fun v144 => (op2 modD (op2 modD (op2 addD (op2 mulD (pure v144) (pure (.int 2147483423))) (pure v143)) (pure (.int 4611686018427387847))) (pure p_many))))))))
def M__law_next : List Sl → Z D := ar2 m__law_next
theorem ok__law_next {f : Addr} {fd : FuncData} (F : Fun K "_law_next" "_law_next" s__law_next f fd) (hy : SysAt base) (mb_len : mg "len" = none) : FnG P w K mg base 1 f fd ["_law_drawn", "_law_many"] (spJ K M__law_next) := by
  have sc := sc__law_next
  exact fn_ar2 F sc rfl fun p_deck p_many cdv A outer s H E hr gu => (fj_seq (sj_unp3Z 2 3 4 (ej_vk 0) (pg_tup rfl (pgs_cons (pg_name (i := 2) sc.nd rfl (by first | exact Or.inl rfl | exact Or.inr rfl)) (pgs_cons (pg_name (i := 3) sc.nd rfl (by first | exact Or.inl rfl | exact Or.inr rfl)) (pgs_cons (pg_name (i := 4) sc.nd rfl (by first | exact Or.inl rfl | exact Or.inr rfl)) pgs_nil)))) (pg_unl rfl (pgs_cons (pg_name (i := 2) sc.nd rfl (by first | exact Or.inl rfl | exact Or.inr rfl)) (pgs_cons (pg_name (i := 3) sc.nd rfl (by first | exact Or.inl rfl | exact Or.inr rfl)) (pgs_cons (pg_name (i := 4) sc.nd rfl (by first | exact Or.inl rfl | exact Or.inr rfl)) pgs_nil))))) (fun v138 => (fj_seq (sj_set 5 sc.nd (ej_bin op_mod rd_mod (ej_vk 3) (ej_lenZ mb_len (ej_vk 2)))) (fun v139 => (fj_seq (sj_putZ (ej_bin op_addD rd_add (ej_vk 3) ej_int) (ej_vk 0) ej_int) (fun v140 => (fj_ifr (tj_cmp op_gt rd_gt (ej_ixZ (ej_vk 4) (ej_vk 5) (fun _ _ => rfl)) ej_int) (fj_seq (sj_set 6 sc.nd (ej_bin op_mod rd_mod (ej_ixZ (ej_vk 4) (ej_vk 5) (fun _ _ => rfl)) (ej_vk 1))) (fun v141 => (fj_seq (sj_putZ (ej_bin op_fdiv rd_div (ej_ixZ (ej_vk 4) (ej_vk 5) (fun _ _ => rfl)) (ej_vk 1)) (ej_vk 4) (ej_vk 5)) (fun v142 => (fj_ret (ej_vk 6)))))) (fj_seq (sj_set 7 sc.nd (ej_bin op_mod rd_mod (ej_bin op_pow rd_pow (ej_bin op_addD rd_add (ej_bin op_addD rd_add (ej_bin op_mod rd_mod (ej_ixZ (ej_vk 2) (ej_vk 5) (fun _ _ => rfl)) ej_int) (ej_bin op_mulD rd_mul ej_int (ej_vk 3))) ej_int) ej_int) ej_int)) (fun v143 => (fj_seq (sj_set 8 sc.nd (ej_bin op_mod rd_mod (ej_bin op_pow rd_pow (ej_bin op_addD rd_add (ej_bin op_addD rd_add (ej_vk 7) (ej_bin op_mulD rd_mul (ej_bin op_mulD rd_mul ej_int (ej_vk 3)) (ej_vk 3))) ej_int) ej_int) ej_int)) (fun v144 => (fj_ret (ej_bin op_mod rd_mod (ej_bin op_mod rd_mod (ej_bin op_addD rd_add (ej_bin op_mulD rd_mul (ej_vk 8) ej_int) (ej_vk 7)) ej_int) (ej_vk 1))))))))))))))
abbrev s__law_totals : Stmt := top 26
theorem sc__law_totals : FnScope ["_law_stock_here", "_law_kind", "_law_row"] ["_law_stock_here"] (defScope s__law_totals) := ⟨rfl, rfl, rfl, by decide +kernel, rfl, by decide +kernel, by decide +kernel⟩
def m__law_totals (p_stock_here : D) : Option D := (op1 tupleD (lstM (comp1 (rng1 (op1 lenD (op2 getD (pure p_stock_here) (pure (.int 0))))) (fun c145 => (op1 sumD (lstM (comp1 (seqM (pure p_stock_here)) (fun c146 => (op2 getD (pure c146) (pure c145))))))))))
def M__law_totals : List Sl → Option D := ar1 m__law_totals
theorem ok__law_totals {f : Addr} {fd : FuncData} (F : Fun K "_law_totals" "_law_totals" s__law_totals f fd) (hy : SysAt base) (mb_len : mg "len" = none) (mb_range : mg "range" = none) (mb_sum : mg "sum" = none) (mb_tuple : mg "tuple" = none) : FnG P w K mg base 1 f fd ["_law_stock_here"] (spJ K M__law_totals) := by
  have sc := sc__law_totals
  exact fn_ar1 F sc rfl fun p_stock_here cdv A outer s H E hr gu => (fj_ret (ej_callT call_tuple_of rc_tuple mb_tuple (ej_l (LcP.expr (lj_lc1 [("_law_kind", 1)] 1 sc.nd (ij_range1 mb_range (ej_call1 call_lenD' rc_len mb_len (ej_ix ix_seq rd_ix (ej_vk 0) ej_int (fun _ _ => rfl)))) (blk_of (by kernel_rfl)) (fun _ _ _ _ _ => pg_name (i := 1) sc.nd rfl (by first | exact Or.inl rfl | exact Or.inr rfl)) (fun _ _ _ _ _ c145 => (ej_call1 (call_sumD rfl) rc_sum mb_sum (ej_l (LcP.expr (lj_lc1 [("_law_row", 2)] 2 sc.nd (ij_seq (ej_vk 0)) (blk_of (by kernel_rfl)) (fun _ _ _ _ _ => pg_name (i := 2) sc.nd rfl (by first | exact Or.inl rfl | exact Or.inr rfl)) (fun _ _ _ _ _ c146 => (ej_ix ix_seq rd_ix (ej_vk 2) (ej_vk 1) (fun _ _ => rfl)))))))))))))
abbrev s__law_has : Stmt := top 27
theorem sc__law_has : FnScope ["_law_collections", "_law_counts", "_law_needed", "_law_k"] ["_law_collections", "_law_counts"] (defScope s__law_has) := ⟨rfl, rfl, rfl, by decide +kernel, rfl, by decide +kernel, by decide +kernel⟩
def m__law_has (p_collections p_counts : D) : Option D := (forM1 (seqM (pure p_collections)) () (fun x148 (a147 : Unit) => (iteM (cmp2 eqD (lstM (comp1i (rng1 (op1 lenD (pure x148))) (fun c149 => (cmp2 ltD (op2 getD (pure p_counts) (pure c149)) (op2 getD (pure x148) (pure c149)))) (fun c149 => (pure c149)))) (lstM (pure []))) (rtM (pure (.bool true))) (pure (.nx ())))) >>= fun f => thenM f fun (a150 : Unit) => (pure (.bool false)))
def M__law_has : List Sl → Option D := ar2 m__law_has
theorem ok__law_has {f : Addr} {fd : FuncData} (F : Fun K "_law_has" "_law_has" s__law_has f fd) (hy : SysAt base) (mb_len : mg "len" = none) (mb_range : mg "range" = none) : FnG P w K mg base 1 f fd ["_law_collections", "_law_counts"] (spJ K M__law_has) := by
  have sc := sc__law_has
  exact fn_ar2 F sc rfl fun p_collections p_counts cdv A outer s H E hr gu => (fj_of_for (for1 2 (P := fun (a147 : Unit) => [.val p_collections, .val p_counts, .any, .any]) (a0 := ()) PassesOwn.never (ij_seq (ej_vk 0)) (pg_name (i := 2) sc.nd rfl (by first | exact Or.inl rfl | exact Or.inr rfl)) (fun x148 a147 => (bj_ifr (tj_cmp (by exact op_eqA hy (units_of hr)) rd_eq (ej_l (LcP.expr (lj_lc1i [("_law_k", 3)] 3 sc.nd (ij_range1 mb_range (ej_call1 call_lenD' rc_len mb_len (ej_vk 2))) (blk_of (by kernel_rfl)) (fun _ _ _ _ _ => pg_name (i := 3) sc.nd rfl (by first | exact Or.inl rfl | exact Or.inr rfl)) (fun _ _ _ _ _ c149 => (tj_cmp op_lt rd_lt (ej_ix ix_seq rd_ix (ej_vk 1) (ej_vk 3) (fun _ _ => rfl)) (ej_ix ix_seq rd_ix (ej_vk 2) (ej_vk 3) (fun _ _ => rfl)))) (fun _ _ _ _ _ c149 => (ej_vk 3))))) (ej_l (lj_lst dj_nil))) (fj_ret ej_bl) (bj_nil (a := ()) ⟨.inr rfl, .inr rfl, .inl rfl, .inl rfl, trivial⟩))) ⟨.inr rfl, .inr rfl, .inl rfl, .inl rfl, trivial⟩) (fun a150 => (fj_ret ej_bl)))
abbrev s__law_without : Stmt := top 28
theorem sc__law_without : FnScope ["_law_stock_here", "_law_at", "_law_kind", "_law_row"] ["_law_stock_here", "_law_at", "_law_kind"] (defScope s__law_without) := ⟨rfl, rfl, rfl, by decide +kernel, rfl, by decide +kernel, by decide +kernel⟩
def m__law_without (p_stock_here p_at p_kind : D) : Option D := ((op2 addD (op2 addD (slcM (op2 getD (pure p_stock_here) (pure p_at)) (pure none) (partM (pure p_kind))) (tupM (consM (op2 subD (op2 getD (op2 getD (pure p_stock_here) (pure p_at)) (pure p_kind)) (pure (.int 1))) (pure [])))) (slcM (op2 getD (pure p_stock_here) (pure p_at)) (partM (op2 addD (pure p_kind) (pure (.int 1)))) (pure none))) >>= fun v151 => (op2 addD (op2 addD (slcM (pure p_stock_here) (pure none) (partM (pure p_at))) (tupM (consM (pure v151) (pure [])))) (slcM (pure p_stock_here) (partM (op2 addD (pure p_at) (pure (.int 1)))) (pure none))))
def M__law_without : List Sl → Option D := ar3 m__law_without
theorem ok__law_without {f : Addr} {fd : FuncData} (F : Fun K "_law_without" "_law_without" s__law_without f fd) (hy : SysAt base) : FnG P w K mg base 1 f fd ["_law_stock_here", "_law_at", "_law_kind"] (spJ K M__law_without) := by
  have sc := sc__law_without
  exact fn_ar3 F sc rfl fun p_stock_here p_at p_kind cdv A outer s H E hr gu => (fj_seq (sj_set 3 sc.nd (ej_bin op_addD rd_add (ej_bin op_addD rd_add (ej_slice (ej_ix ix_seq rd_ix (ej_vk 0) (ej_vk 1) (fun _ _ => rfl)) oj_none (oj_some (ej_vk 2))) (ej_tup (dj_cons (ej_bin op_sub rd_sub (ej_ix ix_seq rd_ix (ej_ix ix_seq rd_ix (ej_vk 0) (ej_vk 1) (fun _ _ => rfl)) (ej_vk 2) (fun _ _ => rfl)) ej_int) dj_nil))) (ej_slice (ej_ix ix_seq rd_ix (ej_vk 0) (ej_vk 1) (fun _ _ => rfl)) (oj_some (ej_bin op_addD rd_add (ej_vk 2) ej_int)) oj_none))) (fun v151 => (fj_ret (ej_bin op_addD rd_add (ej_bin op_addD rd_add (ej_slice (ej_vk 0) oj_none (oj_some (ej_vk 1))) (ej_tup (dj_cons (ej_vk 3) dj_nil))) (ej_slice (ej_vk 0) (oj_some (ej_bin op_addD rd_add (ej_vk 1) ej_int)) oj_none)))))
abbrev s__law_with : Stmt := top 29
theorem sc__law_with : FnScope ["_law_counts", "_law_kind"] ["_law_counts", "_law_kind"] (defScope s__law_with) := ⟨rfl, rfl, rfl, by decide +kernel, rfl, by decide +kernel, by decide +kernel⟩
def m__law_with (p_counts p_kind : D) : Option D := (op2 addD (op2 addD (slcM (pure p_counts) (pure none) (partM (pure p_kind))) (tupM (consM (op2 addD (op2 getD (pure p_counts) (pure p_kind)) (pure (.int 1))) (pure [])))) (slcM (pure p_counts) (partM (op2 addD (pure p_kind) (pure (.int 1)))) (pure none)))
def M__law_with : List Sl → Option D := ar2 m__law_with
theorem ok__law_with {f : Addr} {fd : FuncData} (F : Fun K "_law_with" "_law_with" s__law_with f fd) (hy : SysAt base) : FnG P w K mg base 1 f fd ["_law_counts", "_law_kind"] (spJ K M__law_with) := by
  have sc := sc__law_with
  exact fn_ar2 F sc rfl fun p_counts p_kind cdv A outer s H E hr gu => (fj_ret (ej_bin op_addD rd_add (ej_bin op_addD rd_add (ej_slice (ej_vk 0) oj_none (oj_some (ej_vk 1))) (ej_tup (dj_cons (ej_bin op_addD rd_add (ej_ix ix_seq rd_ix (ej_vk 0) (ej_vk 1) (fun _ _ => rfl)) ej_int) dj_nil))) (ej_slice (ej_vk 0) (oj_some (ej_bin op_addD rd_add (ej_vk 1) ej_int)) oj_none)))
abbrev s_fulfilled_by : Stmt := top 14
theorem sc_fulfilled_by : FnScope ["collections", "counts", "index", "collection"] ["collections", "counts"] (defScope s_fulfilled_by) := ⟨rfl, rfl, rfl, by decide +kernel, rfl, by decide +kernel, by decide +kernel⟩
def m_fulfilled_by (p_collections p_counts : D) : Option D := (forM2 (enumM (pure p_collections)) () (fun x153 x154 (a152 : Unit) => (iteM (tst ((argV (pure p_counts) (argV (pure x154) (pure []))) >>= M_contains)) (rtM (pure x153)) (pure (.nx ())))) >>= fun f => thenM f fun (a155 : Unit) => (pure PyData.none))
def M_fulfilled_by : List Sl → Option D := ar2 m_fulfilled_by
theorem ok_fulfilled_by {f : Addr} {fd : FuncData} (F : Fun K "fulfilled_by" "fulfilled_by" s_fulfilled_by f fd) (hy : SysAt base) (d_contains : Def P w K mg base 1 "contains" ["counts", "collection"] (spJ K M_contains)) (mb_enumerate : mg "enumerate" = none) : FnG P w K mg base 2 f fd ["collections", "counts"] (spJ K M_fulfilled_by) := by
  have sc := sc_fulfilled_by
  exact fn_ar2 F sc rfl fun p_collections p_counts cdv A outer s H E hr gu => (fj_of_for (for2 2 3 (P := fun (a152 : Unit) => [.val p_collections, .val p_counts, .any, .any]) (a0 := ()) PassesOwn.never (ij_enum mb_enumerate (ej_vk 0)) (pg_tup rfl (pgs_cons (pg_name (i := 2) sc.nd rfl (by first | exact Or.inl rfl | exact Or.inr rfl)) (pgs_cons (pg_name (i := 3) sc.nd rfl (by first | exact Or.inl rfl | exact Or.inr rfl)) pgs_nil))) (fun x153 x154 a152 => (bj_ifr (tj_val (ej_callD d_contains (hr.mono (by decide)) gu (aj_cons (ej_vk 1) (aj_cons (ej_vk 3) aj_nil)))) (fj_ret (ej_vk 2)) (bj_nil (a := ()) ⟨.inr rfl, .inr rfl, .inl rfl, .inl rfl, trivial⟩))) ⟨.inr rfl, .inr rfl, .inl rfl, .inl rfl, trivial⟩) (fun a155 => (fj_ret ej_non)))
abbrev s__law_stock : Stmt := top 24
theorem sc__law_stock : FnScope ["_law_drawn", "_law_drawers", "_law_things", "_law_many", "_law_kinds", "_law_rows", "_law_turn", "_law_at", "_law_kind", "_law_k", "_law_row"] ["_law_drawn", "_law_drawers", "_law_things"] (defScope s__law_stock) := ⟨rfl, rfl, rfl, by decide +kernel, rfl, by decide +kernel, by decide +kernel⟩
def m__law_stock (p_deck p_drawers p_things : D) : Z D := ((unp2A (tupM (consM (op2 addD (pure (.int 1)) ((argV (pure p_deck) (argV (pure p_drawers) (pure []))) >>= M__law_next)) (consM (op2 addD (pure (.int 1)) ((argV (pure p_deck) (argV (pure (.int 4)) (pure []))) >>= M__law_next)) (pure []))))) >>= fun v156 => ((comp1 (rng1 (pure v156.1)) (fun c158 => ((repM (consM (pure (.int 0)) (pure [])) (pure v156.2)) >>= newZ))) >>= fun v157 => (forM1 (rng1 ((argV (pure p_deck) (argV (op2 addD (pure p_things) (pure (.int 1))) (pure []))) >>= M__law_next)) () (fun x160 (a159 : Unit) => ((parM ((argV (pure p_deck) (argV (pure v156.1) (pure []))) >>= M__law_next) ((argV (pure p_deck) (argV (pure v156.2) (pure []))) >>= M__law_next)) >>= fun v161 => (((op2 addD (((pure (PyData.list v157)) >>= fun d => (pure v161.1) >>= fun j => ixZ d j) >>= fun d => (pure v161.2) >>= fun j => ixZ d j) (pure (.int 1))) >>= fun v => ((pure (PyData.list v157)) >>= fun d => (pure v161.1) >>= fun j => ixZ d j) >>= fun d => (pure v161.2) >>= fun j => setZ d j v) >>= fun v162 => (pure (.nx ()))))) >>= fun f => thenM f fun (a163 : Unit) => (op1 tupleD (lstM (comp1 (seqM (pure (PyData.list v157))) (fun c164 => ((pure c164) >>= fun d => tupleZ d))))))))
def M__law_stock : List Sl → Z D := ar3 m__law_stock
theorem ok__law_stock {f : Addr} {fd : FuncData} (F : Fun K "_law_stock" "_law_stock" s__law_stock f fd) (hy : SysAt base) (d__law_next : Def P w K mg base 1 "_law_next" ["_law_drawn", "_law_many"] (spJ K M__law_next)) (mb_range : mg "range" = none) (mb_tuple : mg "tuple" = none) : FnG P w K mg base 2 f fd ["_law_drawn", "_law_drawers", "_law_things"] (spJ K M__law_stock) := by
  have sc := sc__law_stock
  exact fn_ar3 F sc rfl fun p_deck p_drawers p_things cdv A outer s H E hr gu => (fj_seq (sj_unp2A 3 4 (ej_tup (dj_cons (ej_bin op_addD rd_add ej_int (ej_callD d__law_next (hr.mono (by decide)) gu (aj_cons (ej_vk 0) (aj_cons (ej_vk 1) aj_nil)))) (dj_cons (ej_bin op_addD rd_add ej_int (ej_callD d__law_next (hr.mono (by decide)) gu (aj_cons (ej_vk 0) (aj_cons ej_int aj_nil)))) dj_nil))) (pg_tup rfl (pgs_cons (pg_name (i := 3) sc.nd rfl (by first | exact Or.inl rfl | exact Or.inr rfl)) (pgs_cons (pg_name (i := 4) sc.nd rfl (by first | exact Or.inl rfl | exact Or.inr rfl)) pgs_nil))) (pg_unl rfl (pgs_cons (pg_name (i := 3) sc.nd rfl (by first | exact Or.inl rfl | exact Or.inr rfl)) (pgs_cons (pg_name (i := 4) sc.nd rfl (by first | exact Or.inl rfl | exact Or.inr rfl)) pgs_nil)))) (fun v156 => (fj_seq (sj_lcV 5 sc.nd (lj_lc1 [("_law_k", 9)] 9 sc.nd (ij_range1 mb_range (ej_vk 3)) (blk_of (by kernel_rfl)) (fun _ _ _ _ _ => pg_name (i := 9) sc.nd rfl (by first | exact Or.inl rfl | exact Or.inr rfl)) (fun _ _ _ _ _ c158 => (ej_cel (lj_rep (lj_lst (dj_cons ej_int dj_nil)) (ej_vk 4))))) (by kernel_rfl)) (fun v157 => (fj_of_for (for1 6 (P := fun (a159 : Unit) => [.val p_deck, .val p_drawers, .val p_things, .val v156.1, .val v156.2, .val (PyData.list v157), .any, .any, .any, .any, .any]) (a0 := ()) PassesOwn.never (ij_range1 mb_range (ej_callD d__law_next (hr.mono (by decide)) gu (aj_cons (ej_vk 0) (aj_cons (ej_bin op_addD rd_add (ej_vk 2) ej_int) aj_nil)))) (pg_name (i := 6) sc.nd rfl (by first | exact Or.inl rfl | exact Or.inr rfl)) (fun x160 a159 => (bj_seq (sj_par 7 8 sc.nd (ej_callD d__law_next (hr.mono (by decide)) gu (aj_cons (ej_vk 0) (aj_cons (ej_vk 3) aj_nil))) (ej_callD d__law_next (hr.mono (by decide)) gu (aj_cons (ej_vk 0) (aj_cons (ej_vk 4) aj_nil)))) (fun v161 => (bj_seq (sj_putZ (ej_bin op_addD rd_add (ej_ixZ (ej_ixZ (ej_vk 5) (ej_vk 7) (fun _ _ => rfl)) (ej_vk 8) (fun _ _ => rfl)) ej_int) (ej_ixZ (ej_vk 5) (ej_vk 7) (fun _ _ => rfl)) (ej_vk 8)) (fun v162 => (bj_nil (a := ()) ⟨.inr rfl, .inr rfl, .inr rfl, .inr rfl, .inr rfl, .inr rfl, .inl rfl, .inl rfl, .inl rfl, .inl rfl, .inl rfl, trivial⟩)))))) ⟨.inr rfl, .inr rfl, .inr rfl, .inr rfl, .inr rfl, .inr rfl, .inl rfl, .inl rfl, .inl rfl, .inl rfl, .inl rfl, trivial⟩) (fun a163 => (fj_ret (ej_callT call_tuple_of rc_tuple mb_tuple (ej_l (LcP.expr (lj_lc1 [("_law_row", 10)] 10 sc.nd (ij_seq (ej_vk 5)) (blk_of (by kernel_rfl)) (fun _ _ _ _ _ => pg_name (i := 10) sc.nd rfl (by first | exact Or.inl rfl | exact Or.inr rfl)) (fun _ _ _ _ _ c164 => (ej_tupleZ mb_tuple (ej_vk 10))))))))))))))
abbrev s__law_wished : Stmt := top 25
theorem sc__law_wished : FnScope ["_law_drawn", "_law_kinds", "_law_most", "_law_found", "_law_turn", "_law_needed", "_law_k"] ["_law_drawn", "_law_kinds", "_law_most"] (defScope s__law_wished) := ⟨rfl, rfl, rfl, by decide +kernel, rfl, by decide +kernel, by decide +kernel⟩
def m__law_wished (p_deck p_kinds p_most : D) : Z D := ((pure []) >>= fun v165 => (forM1 (rng1 (op2 getD (lstM (consM (pure (.int 1)) (consM (pure (.int 1)) (consM (pure (.int 2)) (consM (pure (.int 3)) (consM (pure (.int 4)) (pure []))))))) ((argV (pure p_deck) (argV (pure (.int 5)) (pure []))) >>= M__law_next))) v165 (fun x167 (a166 : List D) => ((comp1 (rng1 (pure p_kinds)) (fun c169 => (op2 mulD ((argV (pure p_deck) (argV (op2 addD (pure p_most) (pure (.int 1))) (pure []))) >>= M__law_next) ((argV (pure p_deck) (argV (pure (.int 2)) (pure []))) >>= M__law_next)))) >>= fun v168 => ((OverZ.up (hidP (m' := Option) [.any, .any, .any, .any, .any, .own v168, .any] (cmp2 eqD (op1 sumD (pure (PyData.list v168))) (pure (.int 0))))) >>= fun k => (if k = true then (((pure (.int 1)) >>= fun d => ((argV (pure p_deck) (argV (pure p_kinds) (pure []))) >>= M__law_next) >>= fun j => Mo.lift (putD v168 j d)) >>= fun v171 => (pure (.nx v171))) else (pure (.nx v168))) >>= fun f => thenB f fun (a170 : List D) => (((op1 tupleD (pure (PyData.list a170))) >>= fun d => Mo.lift (fits a166.length) >>= fun _ => pure d) >>= fun v172 => (pure (.nx (a166 ++ [v172]))))))) >>= fun f => thenM f fun (a173 : List D) => (op1 tupleD (pure (PyData.list a173)))))
def M__law_wished : List Sl → Z D := ar3 m__law_wished
theorem ok__law_wished {f : Addr} {fd : FuncData} (F : Fun K "_law_wished" "_law_wished" s__law_wished f fd) (hy : SysAt base) (d__law_next : Def P w K mg base 1 "_law_next" ["_law_drawn", "_law_many"] (spJ K M__law_next)) (mb_range : mg "range" = none) (mb_sum : mg "sum" = none) (mb_tuple : mg "tuple" = none) : FnG P w K mg base 2 f fd ["_law_drawn", "_law_kinds", "_law_most"] (spJ K M__law_wished) := by
  have sc := sc__law_wished
  exact fn_ar3 F sc rfl fun p_deck p_kinds p_most cdv A outer s H E hr gu => (fj_seq (sj_setO 3 sc.nd (lj_lst dj_nil)) (fun v165 => (fj_of_for (for1 4 (P := fun (a166 : List D) => [.val p_deck, .val p_kinds, .val p_most, .own a166, .any, .any, .any]) (a0 := v165) PassesOwn.never (ij_range1 mb_range (ej_ix ix_seq rd_ix (ej_l (lj_lst (dj_cons ej_int (dj_cons ej_int (dj_cons ej_int (dj_cons ej_int (dj_cons ej_int dj_nil))))))) (ej_callD d__law_next (hr.mono (by decide)) gu (aj_cons (ej_vk 0) (aj_cons ej_int aj_nil))) (fun _ _ => rfl))) (pg_name (i := 4) sc.nd rfl (by first | exact Or.inl rfl | exact Or.inr rfl)) (fun x167 a166 => (bj_seq (sj_lcO 5 sc.nd (lj_lc1 [("_law_k", 6)] 6 sc.nd (ij_range1 mb_range (ej_vk 1)) (blk_of (by kernel_rfl)) (fun _ _ _ _ _ => pg_name (i := 6) sc.nd rfl (by first | exact Or.inl rfl | exact Or.inr rfl)) (fun _ _ _ _ _ c169 => (ej_bin op_mulD rd_mul (ej_callD d__law_next (hr.mono (by decide)) gu (aj_cons (ej_vk 0) (aj_cons (ej_bin op_addD rd_add (ej_vk 2) ej_int) aj_nil))) (ej_callD d__law_next (hr.mono (by decide)) gu (aj_cons (ej_vk 0) (aj_cons ej_int aj_nil)))))) (by kernel_rfl)) (fun v168 => (bj_if (P := fun (a170 : List D) => [.val p_deck, .val p_kinds, .val p_most, .own a166, .val x167, .own a170, .any]) (tj_hidPL (m' := Option) (g := [.val p_deck, .val p_kinds, .val p_most, .own a166, .val x167, .own v168, .any]) [.any, .any, .any, .any, .any, .own v168, .any] (tj_cmp (by exact op_eqA hy (units_of hr)) rd_eq (ej_call1 (call_sumD rfl) rc_sum mb_sum (ej_vk 5)) ej_int) ⟨.inl rfl, .inl rfl, .inl rfl, .inl rfl, .inl rfl, .inr rfl, .inl rfl, trivial⟩) (bj_seq (sj_put 5 ej_int (ej_callD d__law_next (hr.mono (by decide)) gu (aj_cons (ej_vk 0) (aj_cons (ej_vk 1) aj_nil)))) (fun v171 => (bj_nil (a := v171) ⟨.inr rfl, .inr rfl, .inr rfl, .inr rfl, .inr rfl, .inr rfl, .inl rfl, trivial⟩))) (bj_nil (a := v168) ⟨.inr rfl, .inr rfl, .inr rfl, .inr rfl, .inr rfl, .inr rfl, .inl rfl, trivial⟩) (fun a170 => (bj_fr 5 (bj_seq (sj_append 3 (ej_callT call_tuple_of rc_tuple mb_tuple (ej_vk 5))) (fun v172 => (bj_nil (a := (a166 ++ [v172])) ⟨.inr rfl, .inr rfl, .inr rfl, .inr rfl, .inl rfl, .inl rfl, .inl rfl, trivial⟩))))))))) ⟨.inr rfl, .inr rfl, .inr rfl, .inr rfl, .inl rfl, .inl rfl, .inl rfl, trivial⟩) (fun a173 => (fj_fr 3 (fj_ret (ej_callT call_tuple_of rc_tuple mb_tuple (ej_vk 3))))))))
abbrev s_Search__is_done : Stmt := (clsBody (top 18)).getD 1 (.Pass ⟨0, 0, 0, 0⟩)
theorem sc_Search__is_done : FnScope ["self", "stock", "counts", "many", "left"] ["self", "stock"] (defScope s_Search__is_done) := ⟨rfl, rfl, rfl, by decide +kernel, rfl, by decide +kernel, by decide +kernel⟩
def m_Search__is_done (p_self p_stock : D) : Z D := ((op1 tupleD (lstM (comp2 (zip2M ((pure p_self) >>= fun d => OverZ.up (attrZ "Search" "totals" d)) (OverZ.up (hidP (m' := Option) [.any, .val p_stock, .any, .any, .any] ((argV (pure p_stock) (pure [])) >>= M_totals_of)))) (fun c175 c176 => (op2 subD (pure c175) (pure c176)))))) >>= fun v174 => (op2 isnD ((argV ((pure p_self) >>= fun d => OverZ.up (attrZ "Search" "needs" d)) (argV (pure v174) (pure []))) >>= fun as => OverZ.up (hidP (m' := Option) as (M_fulfilled_by as))) (pure PyData.none)))
def M_Search__is_done : List Sl → Z D := ar2 m_Search__is_done
theorem ok_Search__is_done {f : Addr} {fd : FuncData} (F : Fun K "is_done" "Search.is_done" s_Search__is_done f fd) (hy : SysAt base) (hn_Search_needs : HasNo K "Search" "needs") (hn_Search_totals : HasNo K "Search" "totals") (d_fulfilled_by : Def P w K mg base 2 "fulfilled_by" ["collections", "counts"] (spJ K M_fulfilled_by)) (d_totals_of : Def P w K mg base 1 "totals_of" ["stock"] (spJ K M_totals_of)) (mb_tuple : mg "tuple" = none) (mb_zip : mg "zip" = none) : FnG P w K mg base 3 f fd ["self", "stock"] (spJ K M_Search__is_done) := by
  have sc := sc_Search__is_done
  exact fn_ar2 F sc rfl fun p_self p_stock cdv A outer s H E hr gu => (fj_seq (sj_set 2 sc.nd (ej_callT call_tuple_of rc_tuple mb_tuple (ej_l (LcP.expr (lj_lc2 [("many", 3), ("left", 4)] 3 4 sc.nd (ij_zip2 mb_zip (ej_attrZ hn_Search_totals (ej_vk 0)) (ej_hidP (m' := Option) (g := [.val p_self, .val p_stock, .any, .any, .any]) [.any, .val p_stock, .any, .any, .any] (ej_callD d_totals_of (hr.mono (by decide)) gu (aj_cons (ej_vk 1) aj_nil)) ⟨.inl rfl, .inr rfl, .inl rfl, .inl rfl, .inl rfl, trivial⟩)) (blk_of (by kernel_rfl)) (fun _ _ _ _ _ => pg_tup rfl (pgs_cons (pg_name (i := 3) sc.nd rfl (by first | exact Or.inl rfl | exact Or.inr rfl)) (pgs_cons (pg_name (i := 4) sc.nd rfl (by first | exact Or.inl rfl | exact Or.inr rfl)) pgs_nil))) (fun _ _ _ _ _ c175 c176 => (ej_bin op_sub rd_sub (ej_vk 3) (ej_vk 4)))))))) (fun v174 => (fj_ret (ej_cmp op_notN rd_isn (ej_callH (m' := Option) d_fulfilled_by (hr.mono (by decide)) gu (aj_cons (ej_attrZ hn_Search_needs (ej_vk 0)) (aj_cons (ej_vk 2) aj_nil))) ej_non))))
abbrev s_need_few : Stmt := top 19
theorem sc_need_few : FnScope ["stock"] ["stock"] (defScope s_need_few) := ⟨rfl, rfl, rfl, by decide +kernel, rfl, by decide +kernel, by decide +kernel⟩
def mx_need_few (p_stock : D) : Xo D := (iteM (upX (cmp2 gtD (op1 sumD ((argV (pure p_stock) (pure [])) >>= M_sizes_of)) (pure (.int 14)))) ((upX (pure (.int 14))) >>= fun d => MoX.throw ⟨"TooLarge", [("bound", d)]⟩) (pure .none))
def MX_need_few : List Sl → Xo D := ar1 mx_need_few
theorem okx_need_few {f : Addr} {fd : FuncData} (F : Fun K "need_few" "need_few" s_need_few f fd) (hy : SysAt base) {c_TooLarge : Addr} (e1_TooLarge : Er1 P w K mg base "TooLarge" "bound" c_TooLarge) (d_sizes_of : Def P w K mg base 1 "sizes_of" ["stock"] (spJ K M_sizes_of)) (mb_sum : mg "sum" = none) {tc_SMALL_THINGS : Tok} (mc_SMALL_THINGS : mg "SMALL_THINGS" = some (.int 14 tc_SMALL_THINGS)) : FnX P w K mg base 3 f fd ["stock"] (spX K mg MX_need_few) := by
  have sc := sc_need_few
  exact fnx_ar1 F sc rfl fun p_stock cdv A outer s H E hr gu => (fj_ifr (tj_up (m' := Option) (tj_cmp op_gt rd_gt (ej_call1 (call_sumD rfl) rc_sum mb_sum (ej_callD d_sizes_of (hr.mono (by decide)) gu (aj_cons (ej_vk 0) aj_nil))) (ej_gint mc_SMALL_THINGS))) (fj_raise1 e1_TooLarge (hr.mono (by decide)) rfl takesX (sub_any rfl rfl) (ej_up (m' := Option) (ej_gint mc_SMALL_THINGS))) fj_nil)
abbrev s_Search__worst : Stmt := (clsBody (top 18)).getD 2 (.Pass ⟨0, 0, 0, 0⟩)
theorem sc_Search__worst : FnScope ["self", "stock", "drawer", "kinds", "kind", "many"] ["self", "stock", "drawer"] (defScope s_Search__worst) := ⟨rfl, rfl, rfl, by decide +kernel, rfl, by decide +kernel, by decide +kernel⟩
def m_Search__worst (FF : List Sl → Z D) (p_self p_stock p_drawer : D) : Z D := ((comp2i (enumM (op2 getD (pure p_stock) (pure p_drawer))) (fun c178 c179 => (cmp2 gtD (pure c179) (pure (.int 0)))) (fun c178 c179 => (pure c178))) >>= fun v177 => (op2 addD (pure (.int 1)) (op1 maxD (lstM (comp1 (seqM (pure (PyData.list v177))) (fun c180 => ((pure p_self) >>= fun d => OverZ.up (selfZ "Search" "further" d) >>= fun _ => (argV (OverZ.up (hidP (m' := Option) [.any, .val p_stock, .val p_drawer, .any, .val c180, .any] ((argV (pure p_stock) (argV (pure p_drawer) (argV (pure c180) (pure [])))) >>= M_without_thing))) (pure [])) >>= fun as => FF (.val d :: as))))))))
theorem ok_Search__worst {f : Addr} {fd : FuncData} {kk : Nat} {FF : List Sl → Z D} (h4 : 4 ≤ kk) (F : Fun K "worst" "Search.worst" s_Search__worst f fd) (hy : SysAt base) (d_Search__further : MthG P w K mg base kk "Search" "further" ["self", "stock"] (spJ K FF)) (d_without_thing : Def P w K mg base 1 "without_thing" ["stock", "drawer", "kind"] (spJ K M_without_thing)) (mb_enumerate : mg "enumerate" = none) (mb_max : mg "max" = none) : FnG P w K mg base (kk + 1) f fd ["self", "stock", "drawer"] (spJ K (ar3 (m_Search__worst FF))) := by
  have sc := sc_Search__worst
  exact fn_ar3 F sc rfl fun p_self p_stock p_drawer cdv A outer s H E hr gu => (fj_seq (sj_lcV 3 sc.nd (lj_lc2i [("kind", 4), ("many", 5)] 4 5 sc.nd (ij_enum mb_enumerate (ej_ix ix_seq rd_ix (ej_vk 1) (ej_vk 2) (fun _ _ => rfl))) (blk_of (by kernel_rfl)) (fun _ _ _ _ _ => pg_tup rfl (pgs_cons (pg_name (i := 4) sc.nd rfl (by first | exact Or.inl rfl | exact Or.inr rfl)) (pgs_cons (pg_name (i := 5) sc.nd rfl (by first | exact Or.inl rfl | exact Or.inr rfl)) pgs_nil))) (fun _ _ _ _ _ c178 c179 => (tj_cmp op_gt rd_gt (ej_vk 5) ej_int)) (fun _ _ _ _ _ c178 c179 => (ej_vk 4))) (by kernel_rfl)) (fun v177 => (fj_ret (ej_bin op_addD rd_add ej_int (ej_call1 (call_maxD rfl) rc_max mb_max (ej_l (LcP.expr (lj_lc1 [("kind", 4)] 4 sc.nd (ij_seq (ej_vk 3)) (blk_of (by kernel_rfl)) (fun _ _ _ _ _ => pg_name (i := 4) sc.nd rfl (by first | exact Or.inl rfl | exact Or.inr rfl)) (fun _ _ _ _ _ c180 => (ej_methZ d_Search__further (hr.mono (by first | exact Nat.le_refl _ | omega)) gu (ej_vk 0) (aj_cons (ej_onG [.val p_self, .val p_stock, .val p_drawer, .val (PyData.list v177), .val c180, .any] (ej_hidP (m' := Option) [.any, .val p_stock, .val p_drawer, .any, .val c180, .any] (ej_callD d_without_thing (hr.mono (by first | exact Nat.le_refl _ | omega)) gu (aj_cons (ej_vk 1) (aj_cons (ej_vk 2) (aj_cons (ej_vk 4) aj_nil)))) ⟨.inl rfl, .inr rfl, .inr rfl, .inl rfl, .inr rfl, .inl rfl, trivial⟩)) aj_nil)))))))))))
abbrev s_Search__further : Stmt := (clsBody (top 18)).getD 3 (.Pass ⟨0, 0, 0, 0⟩)
theorem sc_Search__further : FnScope ["self", "stock", "full", "drawer", "size"] ["self", "stock"] (defScope s_Search__further) := ⟨rfl, rfl, rfl, by decide +kernel, rfl, by decide +kernel, by decide +kernel⟩
def m_Search__further : Nat → D → D → Z D
  | 0, _, _ => Mo.lift none
  | n + 1, p_self, p_stock => ((tst ((pure p_stock) >>= fun j => ((pure p_self) >>= fun d => OverZ.up (attrZ "Search" "known" d)) >>= fun d => OverZ.up (inK true j d))) >>= fun k => (if k = true then ((OverZ.up (hidP (m' := Option) [.any, .val p_stock, .any, .any, .any] (comp2i (enumM ((argV (pure p_stock) (pure [])) >>= M_sizes_of)) (fun c183 c184 => (cmp2 gtD (pure c184) (pure (.int 0)))) (fun c183 c184 => (pure c183))))) >>= fun v182 => (((iteM (tst ((pure p_self) >>= fun d => OverZ.up (selfZ "Search" "is_done" d) >>= fun _ => (argV (pure p_stock) (pure [])) >>= fun as => M_Search__is_done (.val d :: as))) (pure (.int 0)) (op1 minD (lstM (comp1 (seqM (pure (PyData.list v182))) (fun c185 => ((pure p_self) >>= fun d => OverZ.up (selfZ "Search" "worst" d) >>= fun _ => (argV (pure p_stock) (argV (pure c185) (pure []))) >>= fun as => (ar3 (m_Search__worst (ar2 (m_Search__further n)))) (.val d :: as))))))) >>= fun v => ((pure p_self) >>= fun d => OverZ.up (attrZ "Search" "known" d)) >>= fun d => (pure p_stock) >>= fun j => OverZ.up (setK d j v)) >>= fun v186 => (pure (.nx ())))) else (pure (.nx ()))) >>= fun f => thenM f fun (a181 : Unit) => (((pure p_self) >>= fun d => OverZ.up (attrZ "Search" "known" d)) >>= fun d => (pure p_stock) >>= fun j => OverZ.up (getK d j)))
def M_Search__further : List Sl → Z D := ar2 (m_Search__further 16)
def M_Search__worst : List Sl → Z D := ar3 (m_Search__worst M_Search__further)
theorem ok_Search__further {f C f2 : Addr} {fd fd2 : FuncData} (cl : ClsOk K "Search" C) (F : Fun K "further" "Search.further" s_Search__further f fd) (mf : Meth K C "further" f) (bb : Binds K fd ["self", "stock"] []) (F2 : Fun K "worst" "Search.worst" s_Search__worst f2 fd2) (mw : Meth K C "worst" f2) (bw : Binds K fd2 ["self", "stock", "drawer"] []) (hy : SysAt base) (hn_Search_known : HasNo K "Search" "known") (d_Search__is_done : MthG P w K mg base 3 "Search" "is_done" ["self", "stock"] (spJ K M_Search__is_done)) (d_sizes_of : Def P w K mg base 1 "sizes_of" ["stock"] (spJ K M_sizes_of)) (d_without_thing : Def P w K mg base 1 "without_thing" ["stock", "drawer", "kind"] (spJ K M_without_thing)) (mb_enumerate : mg "enumerate" = none) (mb_max : mg "max" = none) (mb_min : mg "min" = none) : ∀ n : Nat, FnG P w K mg base (rlv n) f fd ["self", "stock"] (spJ K (ar2 (m_Search__further n)))
  | 0 => fng_none fun as n φ h => by
    unfold ar2 at h
    split at h <;> exact no_lift h
  | n + 1 => by
    have sc := sc_Search__further
    have h4 := rlv_le n
    have d_Search__further : MthG P w K mg base (rlv n) "Search" "further" ["self", "stock"] (spJ K (ar2 (m_Search__further n))) := ⟨C, f, fd, cl, mf, ok_Search__further cl F mf bb F2 mw bw hy hn_Search_known d_Search__is_done d_sizes_of d_without_thing mb_enumerate mb_max mb_min n, bb⟩
    have d_Search__worst : MthG P w K mg base (rlv n + 1) "Search" "worst" ["self", "stock", "drawer"] (spJ K (ar3 (m_Search__worst (ar2 (m_Search__further n))))) := ⟨C, f2, fd2, cl, mw, ok_Search__worst h4 F2 hy d_Search__further d_without_thing mb_enumerate mb_max, bw⟩
    show FnG P w K mg base ((rlv n + 1) + 1) f fd ["self", "stock"] _
    exact fn_ar2 F sc rfl fun p_self p_stock cdv A outer s H E hr gu => (fj_if (P := fun (a181 : Unit) => [.val p_self, .val p_stock, .any, .any, .any]) (tj_notInK (units_of hr) (ej_vk 1) (ej_attrZ hn_Search_known (ej_vk 0))) (bj_seq (sj_lcV 2 sc.nd (lcp_hidP (m' := Option) (g := [.val p_self, .val p_stock, .any, .any, .any]) [.any, .val p_stock, .any, .any, .any] (lj_lc2i [("drawer", 3), ("size", 4)] 3 4 sc.nd (ij_enum mb_enumerate (ej_callD d_sizes_of (hr.mono (by first | exact Nat.le_refl _ | omega)) gu (aj_cons (ej_vk 1) aj_nil))) (blk_of (by kernel_rfl)) (fun _ _ _ _ _ => pg_tup rfl (pgs_cons (pg_name (i := 3) sc.nd rfl (by first | exact Or.inl rfl | exact Or.inr rfl)) (pgs_cons (pg_name (i := 4) sc.nd rfl (by first | exact Or.inl rfl | exact Or.inr rfl)) pgs_nil))) (fun _ _ _ _ _ c183 c184 => (tj_cmp op_gt rd_gt (ej_vk 4) ej_int)) (fun _ _ _ _ _ c183 c184 => (ej_vk 3))) ⟨.inl rfl, .inr rfl, .inl rfl, .inl rfl, .inl rfl, trivial⟩) (by kernel_rfl)) (fun v182 => (bj_seq (sj_setK (units_of hr) (ej_if (tj_val (ej_methZ d_Search__is_done (hr.mono (by first | exact Nat.le_refl _ | omega)) gu (ej_vk 0) (aj_cons (ej_vk 1) aj_nil))) ej_int (ej_call1 (call_minD rfl) rc_min mb_min (ej_l (LcP.expr (lj_lc1 [("drawer", 3)] 3 sc.nd (ij_seq (ej_vk 2)) (blk_of (by kernel_rfl)) (fun _ _ _ _ _ => pg_name (i := 3) sc.nd rfl (by first | exact Or.inl rfl | exact Or.inr rfl)) (fun _ _ _ _ _ c185 => (ej_methZ d_Search__worst (hr.mono (by first | exact Nat.le_refl _ | omega)) gu (ej_vk 0) (aj_cons (ej_vk 1) (aj_cons (ej_vk 3) aj_nil))))))))) (ej_attrZ hn_Search_known (ej_vk 0)) (ej_vk 1)) (fun v186 => (bj_nil (a := ()) ⟨.inr rfl, .inr rfl, .inl rfl, .inl rfl, .inl rfl, trivial⟩))))) (bj_nil (a := ()) ⟨.inr rfl, .inr rfl, .inl rfl, .inl rfl, .inl rfl, trivial⟩) (fun a181 => (fj_ret (ej_getK (units_of hr) (ej_attrZ hn_Search_known (ej_vk 0)) (ej_vk 1)))))
abbrev s__law_worst : Stmt := top 30
theorem sc__law_worst : FnScope ["_law_known", "_law_stock_here", "_law_collections", "_law_counts", "_law_at", "_law_found", "_law_kind", "_law_less", "_law_more"] ["_law_known", "_law_stock_here", "_law_collections", "_law_counts", "_law_at"] (defScope s__law_worst) := ⟨rfl, rfl, rfl, by decide +kernel, rfl, by decide +kernel, by decide +kernel⟩
def m__law_worst (FF : List Sl → Z D) (p_known p_stock_here p_collections p_counts p_at : D) : Z D := ((pure []) >>= fun v187 => (forM1 (rng1 (op1 lenD (pure p_counts))) v187 (fun x189 (a188 : List D) => ((cmp2 gtD (op2 getD (op2 getD (pure p_stock_here) (pure p_at)) (pure x189)) (pure (.int 0))) >>= fun k => (if k = true then ((parM (OverZ.up (hidP (m' := Option) [.any, .val p_stock_here, .any, .any, .val p_at, .any, .val x189, .any, .any] ((argV (pure p_stock_here) (argV (pure p_at) (argV (pure x189) (pure [])))) >>= M__law_without))) (OverZ.up (hidP (m' := Option) [.any, .any, .any, .val p_counts, .any, .any, .val x189, .any, .any] ((argV (pure p_counts) (argV (pure x189) (pure []))) >>= M__law_with)))) >>= fun v191 => ((((argV (pure p_known) (argV (pure v191.1) (argV (pure p_collections) (argV (pure v191.2) (pure []))))) >>= FF) >>= fun d => Mo.lift (fits a188.length) >>= fun _ => pure d) >>= fun v192 => (pure (.nx (a188 ++ [v192]))))) else (pure (.nx a188))) >>= fun f => thenB f fun (a190 : List D) => (pure (.nx a190)))) >>= fun f => thenM f fun (a193 : List D) => (op2 addD (pure (.int 1)) (op1 maxD (pure (PyData.list a193))))))
theorem ok__law_worst {f : Addr} {fd : FuncData} {kk : Nat} {FF : List Sl → Z D} (h4 : 4 ≤ kk) (F : Fun K "_law_worst" "_law_worst" s__law_worst f fd) (hy : SysAt base) (d__law_further : Def P w K mg base kk "_law_further" ["_law_known", "_law_stock_here", "_law_collections", "_law_counts"] (spJ K FF)) (d__law_with : Def P w K mg base 1 "_law_with" ["_law_counts", "_law_kind"] (spJ K M__law_with)) (d__law_without : Def P w K mg base 1 "_law_without" ["_law_stock_here", "_law_at", "_law_kind"] (spJ K M__law_without)) (mb_len : mg "len" = none) (mb_max : mg "max" = none) (mb_range : mg "range" = none) : FnG P w K mg base (kk + 1) f fd ["_law_known", "_law_stock_here", "_law_collections", "_law_counts", "_law_at"] (spJ K (ar5 (m__law_worst FF))) := by
  have sc := sc__law_worst
  exact fn_ar5 F sc rfl fun p_known p_stock_here p_collections p_counts p_at cdv A outer s H E hr gu => (fj_seq (sj_setO 5 sc.nd (lj_lst dj_nil)) (fun v187 => (fj_of_for (for1 6 (P := fun (a188 : List D) => [.val p_known, .val p_stock_here, .val p_collections, .val p_counts, .val p_at, .own a188, .any, .any, .any]) (a0 := v187) PassesOwn.never (ij_range1 mb_range (ej_call1 call_lenD' rc_len mb_len (ej_vk 3))) (pg_name (i := 6) sc.nd rfl (by first | exact Or.inl rfl | exact Or.inr rfl)) (fun x189 a188 => (bj_if (P := fun (a190 : List D) => [.val p_known, .val p_stock_here, .val p_collections, .val p_counts, .val p_at, .own a190, .val x189, .any, .any]) (tj_cmp op_gt rd_gt (ej_ix ix_seq rd_ix (ej_ix ix_seq rd_ix (ej_vk 1) (ej_vk 4) (fun _ _ => rfl)) (ej_vk 6) (fun _ _ => rfl)) ej_int) (bj_seq (sj_par 7 8 sc.nd (ej_hidP (m' := Option) (g := [.val p_known, .val p_stock_here, .val p_collections, .val p_counts, .val p_at, .own a188, .val x189, .any, .any]) [.any, .val p_stock_here, .any, .any, .val p_at, .any, .val x189, .any, .any] (ej_callD d__law_without (hr.mono (by first | exact Nat.le_refl _ | omega)) gu (aj_cons (ej_vk 1) (aj_cons (ej_vk 4) (aj_cons (ej_vk 6) aj_nil)))) ⟨.inl rfl, .inr rfl, .inl rfl, .inl rfl, .inr rfl, .inl rfl, .inr rfl, .inl rfl, .inl rfl, trivial⟩) (ej_hidP (m' := Option) (g := [.val p_known, .val p_stock_here, .val p_collections, .val p_counts, .val p_at, .own a188, .val x189, .any, .any]) [.any, .any, .any, .val p_counts, .any, .any, .val x189, .any, .any] (ej_callD d__law_with (hr.mono (by first | exact Nat.le_refl _ | omega)) gu (aj_cons (ej_vk 3) (aj_cons (ej_vk 6) aj_nil))) ⟨.inl rfl, .inl rfl, .inl rfl, .inr rfl, .inl rfl, .inl rfl, .inr rfl, .inl rfl, .inl rfl, trivial⟩)) (fun v191 => (bj_seq (sj_append 5 (ej_callD d__law_further (hr.mono (by first | exact Nat.le_refl _ | omega)) gu (aj_cons (ej_vk 0) (aj_cons (ej_vk 7) (aj_cons (ej_vk 2) (aj_cons (ej_vk 8) aj_nil)))))) (fun v192 => (bj_nil (a := (a188 ++ [v192])) ⟨.inr rfl, .inr rfl, .inr rfl, .inr rfl, .inr rfl, .inr rfl, .inr rfl, .inl rfl, .inl rfl, trivial⟩))))) (bj_nil (a := a188) ⟨.inr rfl, .inr rfl, .inr rfl, .inr rfl, .inr rfl, .inr rfl, .inr rfl, .inl rfl, .inl rfl, trivial⟩) (fun a190 => (bj_nil (a := a190) ⟨.inr rfl, .inr rfl, .inr rfl, .inr rfl, .inr rfl, .inr rfl, .inl rfl, .inl rfl, .inl rfl, trivial⟩)))) ⟨.inr rfl, .inr rfl, .inr rfl, .inr rfl, .inr rfl, .inr rfl, .inl rfl, .inl rfl, .inl rfl, trivial⟩) (fun a193 => (fj_fr 5 (fj_ret (ej_bin op_addD rd_add ej_int (ej_call1 (call_maxD rfl) rc_max mb_max (ej_vk 5)))))))))
abbrev s__law_further : Stmt := top 31
theorem sc__law_further : FnScope ["_law_known", "_law_stock_here", "_law_collections", "_law_counts", "_law_full", "_law_at"] ["_law_known", "_law_stock_here", "_law_collections", "_law_counts"] (defScope s__law_further) := ⟨rfl, rfl, rfl, by decide +kernel, rfl, by decide +kernel, by decide +kernel⟩
def m__law_further : Nat → D → D → D → D → Z D
  | 0, _, _, _, _ => Mo.lift none
  | n + 1, p_known, p_stock_here, p_collections, p_counts => ((tst ((pure p_stock_here) >>= fun j => (pure p_known) >>= fun d => OverZ.up (inK true j d))) >>= fun k => (if k = true then (((pure (.int 0)) >>= fun v => (pure p_known) >>= fun d => (pure p_stock_here) >>= fun j => OverZ.up (setK d j v)) >>= fun v195 => ((OverZ.up (hidP (m' := Option) [.any, .any, .val p_collections, .val p_counts, .any, .any] (notB (tst ((argV (pure p_collections) (argV (pure p_counts) (pure []))) >>= M__law_has))))) >>= fun k => (if k = true then ((comp1i (rng1 (op1 lenD (pure p_stock_here))) (fun c198 => (cmp2 gtD (op1 sumD (op2 getD (pure p_stock_here) (pure c198))) (pure (.int 0)))) (fun c198 => (pure c198))) >>= fun v197 => (((op1 minD (lstM (comp1 (seqM (pure (PyData.list v197))) (fun c199 => ((argV (pure p_known) (argV (pure p_stock_here) (argV (pure p_collections) (argV (pure p_counts) (argV (pure c199) (pure [])))))) >>= (ar5 (m__law_worst (ar4 (m__law_further n))))))))) >>= fun v => (pure p_known) >>= fun d => (pure p_stock_here) >>= fun j => OverZ.up (setK d j v)) >>= fun v200 => (pure (.nx ())))) else (pure (.nx ()))) >>= fun f => thenB f fun (a196 : Unit) => (pure (.nx ())))) else (pure (.nx ()))) >>= fun f => thenM f fun (a194 : Unit) => ((pure p_known) >>= fun d => (pure p_stock_here) >>= fun j => OverZ.up (getK d j)))
def M__law_further : List Sl → Z D := ar4 (m__law_further 16)
def M__law_worst : List Sl → Z D := ar5 (m__law_worst M__law_further)
theorem ok__law_further {f f2 : Addr} {fd fd2 : FuncData} (F : Fun K "_law_further" "_law_further" s__law_further f fd) (em : mg "_law_further" = some (.ref f)) (ek : PySem.W.keepIn K (.ref f) = true) (bb : Binds K fd ["_law_known", "_law_stock_here", "_law_collections", "_law_counts"] []) (F2 : Fun K "_law_worst" "_law_worst" s__law_worst f2 fd2) (em2 : mg "_law_worst" = some (.ref f2)) (ek2 : PySem.W.keepIn K (.ref f2) = true) (bw : Binds K fd2 ["_law_known", "_law_stock_here", "_law_collections", "_law_counts", "_law_at"] []) (hy : SysAt base) (d__law_has : Def P w K mg base 1 "_law_has" ["_law_collections", "_law_counts"] (spJ K M__law_has)) (d__law_with : Def P w K mg base 1 "_law_with" ["_law_counts", "_law_kind"] (spJ K M__law_with)) (d__law_without : Def P w K mg base 1 "_law_without" ["_law_stock_here", "_law_at", "_law_kind"] (spJ K M__law_without)) (mb_len : mg "len" = none) (mb_max : mg "max" = none) (mb_min : mg "min" = none) (mb_range : mg "range" = none) (mb_sum : mg "sum" = none) : ∀ n : Nat, FnG P w K mg base (rlv n) f fd ["_law_known", "_law_stock_here", "_law_collections", "_law_counts"] (spJ K (ar4 (m__law_further n)))
  | 0 => fng_none fun as n φ h => by
    unfold ar4 at h
    split at h <;> exact no_lift h
  | n + 1 => by
    have sc := sc__law_further
    have h4 := rlv_le n
    have d__law_further : Def P w K mg base (rlv n) "_law_further" ["_law_known", "_law_stock_here", "_law_collections", "_law_counts"] (spJ K (ar4 (m__law_further n))) := ⟨f, fd, ok__law_further F em ek bb F2 em2 ek2 bw hy d__law_has d__law_with d__law_without mb_len mb_max mb_min mb_range mb_sum n, em, ek, bb⟩
    have d__law_worst : Def P w K mg base (rlv n + 1) "_law_worst" ["_law_known", "_law_stock_here", "_law_collections", "_law_counts", "_law_at"] (spJ K (ar5 (m__law_worst (ar4 (m__law_further n))))) := ⟨f2, fd2, ok__law_worst h4 F2 hy d__law_further d__law_with d__law_without mb_len mb_max mb_range, em2, ek2, bw⟩
    show FnG P w K mg base ((rlv n + 1) + 1) f fd ["_law_known", "_law_stock_here", "_law_collections", "_law_counts"] _
    exact fn_ar4 F sc rfl fun p_known p_stock_here p_collections p_counts cdv A outer s H E hr gu => (fj_if (P := fun (a194 : Unit) => [.val p_known, .val p_stock_here, .val p_collections, .val p_counts, .any, .any]) (tj_notInK (units_of hr) (ej_vk 1) (ej_vk 0)) (bj_seq (sj_setK (units_of hr) ej_int (ej_vk 0) (ej_vk 1)) (fun v195 => (bj_if (P := fun (a196 : Unit) => [.val p_known, .val p_stock_here, .val p_collections, .val p_counts, .any, .any]) (tj_hidP (m' := Option) (g := [.val p_known, .val p_stock_here, .val p_collections, .val p_counts, .any, .any]) [.any, .any, .val p_collections, .val p_counts, .any, .any] (tj_not (tj_val (ej_callD d__law_has (hr.mono (by first | exact Nat.le_refl _ | omega)) gu (aj_cons (ej_vk 2) (aj_cons (ej_vk 3) aj_nil))))) ⟨.inl rfl, .inl rfl, .inr rfl, .inr rfl, .inl rfl, .inl rfl, trivial⟩) (bj_seq (sj_lcV 4 sc.nd (lj_lc1i [("_law_at", 5)] 5 sc.nd (ij_range1 mb_range (ej_call1 call_lenD' rc_len mb_len (ej_vk 1))) (blk_of (by kernel_rfl)) (fun _ _ _ _ _ => pg_name (i := 5) sc.nd rfl (by first | exact Or.inl rfl | exact Or.inr rfl)) (fun _ _ _ _ _ c198 => (tj_cmp op_gt rd_gt (ej_call1 (call_sumD rfl) rc_sum mb_sum (ej_ix ix_seq rd_ix (ej_vk 1) (ej_vk 5) (fun _ _ => rfl))) ej_int)) (fun _ _ _ _ _ c198 => (ej_vk 5))) (by kernel_rfl)) (fun v197 => (bj_seq (sj_setK (units_of hr) (ej_call1 (call_minD rfl) rc_min mb_min (ej_l (LcP.expr (lj_lc1 [("_law_at", 5)] 5 sc.nd (ij_seq (ej_vk 4)) (blk_of (by kernel_rfl)) (fun _ _ _ _ _ => pg_name (i := 5) sc.nd rfl (by first | exact Or.inl rfl | exact Or.inr rfl)) (fun _ _ _ _ _ c199 => (ej_callD d__law_worst (hr.mono (by first | exact Nat.le_refl _ | omega)) gu (aj_cons (ej_vk 0) (aj_cons (ej_vk 1) (aj_cons (ej_vk 2) (aj_cons (ej_vk 3) (aj_cons (ej_vk 5) aj_nil))))))))))) (ej_vk 0) (ej_vk 1)) (fun v200 => (bj_nil (a := ()) ⟨.inr rfl, .inr rfl, .inr rfl, .inr rfl, .inl rfl, .inl rfl, trivial⟩))))) (bj_nil (a := ()) ⟨.inr rfl, .inr rfl, .inr rfl, .inr rfl, .inl rfl, .inl rfl, trivial⟩) (fun a196 => (bj_nil (a := ()) ⟨.inr rfl, .inr rfl, .inr rfl, .inr rfl, .inl rfl, .inl rfl, trivial⟩))))) (bj_nil (a := ()) ⟨.inr rfl, .inr rfl, .inr rfl, .inr rfl, .inl rfl, .inl rfl, trivial⟩) (fun a194 => (fj_ret (ej_getK (units_of hr) (ej_vk 0) (ej_vk 1)))))
abbrev s_next_drawer : Stmt := top 20
theorem sc_next_drawer : FnScope ["stock", "collections", "counts", "totals", "search", "full", "drawer", "size"] ["stock", "collections", "counts"] (defScope s_next_drawer) := ⟨rfl, rfl, rfl, by decide +kernel, rfl, by decide +kernel, by decide +kernel⟩
def mx_next_drawer (p_stock p_collections p_counts : D) : ZX D := (((argV (upZ (pure p_stock)) (pure [])) >>= fun as => hidX as (MX_need_few as)) >>= fun v208 => ((upZ (OverZ.up (hidP (m' := Option) [.val p_stock, .any, .val p_counts, .any, .any, .any, .any, .any] ((argV (pure p_counts) (argV ((argV (pure p_stock) (pure [])) >>= M_totals_of) (pure []))) >>= M_added)))) >>= fun v209 => (iteM (upZ (OverZ.up (hidP (m' := Option) [.any, .val p_collections, .val p_counts, .val v209, .any, .any, .any, .any] (orB (cmp2 isnD ((argV (pure p_collections) (argV (pure p_counts) (pure []))) >>= M_fulfilled_by) (pure PyData.none)) (cmp2 isD ((argV (pure p_collections) (argV (pure v209) (pure []))) >>= M_fulfilled_by) (pure PyData.none)))))) (upZ (pure PyData.none)) ((upZ ((argV (pure p_collections) (argV (pure v209) (pure []))) >>= fun as => OverZ.up (newI "Search") >>= fun d => M_Search____init__ (.val d :: as) >>= fun r => Mo.lift (nonO r) >>= fun _ => pure d)) >>= fun v210 => ((upZ (OverZ.up (hidP (m' := Option) [.val p_stock, .any, .any, .any, .any, .any, .any, .any] (comp2i (enumM ((argV (pure p_stock) (pure [])) >>= M_sizes_of)) (fun c212 c213 => (cmp2 gtD (pure c213) (pure (.int 0)))) (fun c212 c213 => (pure c212)))))) >>= fun v211 => (upZ ((op1 minAD (lstM (comp1 (seqM (pure (PyData.list v211))) (fun c214 => (tupM (consM ((pure v210) >>= fun d => OverZ.up (selfZ "Search" "worst" d) >>= fun _ => (argV (pure p_stock) (argV (pure c214) (pure []))) >>= fun as => M_Search__worst (.val d :: as)) (consM (pure c214) (pure [])))))))) >>= fun d => (pure (.int 1)) >>= fun j => ixZ d j)))))))
def MX_next_drawer : List Sl → ZX D := ar3 mx_next_drawer
theorem okx_next_drawer {f : Addr} {fd : FuncData} (F : Fun K "next_drawer" "next_drawer" s_next_drawer f fd) (hy : SysAt base) (d_Search____init__ : MkG P w K mg base 1 "Search" ["self", "collections", "totals"] (spJ K M_Search____init__)) (d_Search__worst : MthG P w K mg base 37 "Search" "worst" ["self", "stock", "drawer"] (spJ K M_Search__worst)) (d_added : Def P w K mg base 1 "added" ["counts", "others"] (spJ K M_added)) (d_fulfilled_by : Def P w K mg base 2 "fulfilled_by" ["collections", "counts"] (spJ K M_fulfilled_by)) (d_sizes_of : Def P w K mg base 1 "sizes_of" ["stock"] (spJ K M_sizes_of)) (d_totals_of : Def P w K mg base 1 "totals_of" ["stock"] (spJ K M_totals_of)) (dx_need_few : DefX P w K mg base 3 "need_few" ["stock"] (spX K mg MX_need_few)) (mb_enumerate : mg "enumerate" = none) (mb_min : mg "min" = none) : FnX P w K mg base 38 f fd ["stock", "collections", "counts"] (spX K mg MX_next_drawer) := by
  have sc := sc_next_drawer
  exact fnx_ar3 F sc rfl fun p_stock p_collections p_counts cdv A outer s H E hr gu => (fj_seq (sj_expr (ej_callHX dx_need_few (hr.mono (by decide)) gu takesX (sub_any rfl rfl) (aj_cons (ej_up (m' := Z) (ej_vk 0)) aj_nil))) (fun v208 => (fj_seq (sj_set 3 sc.nd (ej_up (m' := Z) (ej_hidP (m' := Option) (g := [.val p_stock, .val p_collections, .val p_counts, .any, .any, .any, .any, .any]) [.val p_stock, .any, .val p_counts, .any, .any, .any, .any, .any] (ej_callD d_added (hr.mono (by decide)) gu (aj_cons (ej_vk 2) (aj_cons (ej_callD d_totals_of (hr.mono (by decide)) gu (aj_cons (ej_vk 0) aj_nil)) aj_nil))) ⟨.inr rfl, .inl rfl, .inr rfl, .inl rfl, .inl rfl, .inl rfl, .inl rfl, .inl rfl, trivial⟩))) (fun v209 => (fj_ifr (tj_up (m' := Z) (tj_hidP (m' := Option) (g := [.val p_stock, .val p_collections, .val p_counts, .val v209, .any, .any, .any, .any]) [.any, .val p_collections, .val p_counts, .val v209, .any, .any, .any, .any] (tj_w (wj_or (tj_cmp op_notN rd_isn (ej_callD d_fulfilled_by (hr.mono (by decide)) gu (aj_cons (ej_vk 1) (aj_cons (ej_vk 2) aj_nil))) ej_non) (wj_or1 (tj_cmp op_isN rd_is (ej_callD d_fulfilled_by (hr.mono (by decide)) gu (aj_cons (ej_vk 1) (aj_cons (ej_vk 3) aj_nil))) ej_non)))) ⟨.inl rfl, .inr rfl, .inr rfl, .inr rfl, .inl rfl, .inl rfl, .inl rfl, .inl rfl, trivial⟩)) (fj_ret (ej_up (m' := Z) ej_non)) (fj_seq (sj_set 4 sc.nd (ej_up (m' := Z) (ej_newZ d_Search____init__ (hr.mono (by decide)) gu (aj_cons (ej_vk 1) (aj_cons (ej_vk 3) aj_nil))))) (fun v210 => (fj_seq (sj_lcV 5 sc.nd (lcp_up (m' := Z) (lcp_hidP (m' := Option) (g := [.val p_stock, .val p_collections, .val p_counts, .val v209, .val v210, .any, .any, .any]) [.val p_stock, .any, .any, .any, .any, .any, .any, .any] (lj_lc2i [("drawer", 6), ("size", 7)] 6 7 sc.nd (ij_enum mb_enumerate (ej_callD d_sizes_of (hr.mono (by decide)) gu (aj_cons (ej_vk 0) aj_nil))) (blk_of (by kernel_rfl)) (fun _ _ _ _ _ => pg_tup rfl (pgs_cons (pg_name (i := 6) sc.nd rfl (by first | exact Or.inl rfl | exact Or.inr rfl)) (pgs_cons (pg_name (i := 7) sc.nd rfl (by first | exact Or.inl rfl | exact Or.inr rfl)) pgs_nil))) (fun _ _ _ _ _ c212 c213 => (tj_cmp op_gt rd_gt (ej_vk 7) ej_int)) (fun _ _ _ _ _ c212 c213 => (ej_vk 6))) ⟨.inr rfl, .inl rfl, .inl rfl, .inl rfl, .inl rfl, .inl rfl, .inl rfl, .inl rfl, trivial⟩)) (by kernel_rfl)) (fun v211 => (fj_ret (ej_up (m' := Z) (ej_ixZ (ej_call1 (by exact call_minA rfl hy (units_of hr)) rc_minA mb_min (ej_l (LcP.expr (lj_lc1 [("drawer", 6)] 6 sc.nd (ij_seq (ej_vk 5)) (blk_of (by kernel_rfl)) (fun _ _ _ _ _ => pg_name (i := 6) sc.nd rfl (by first | exact Or.inl rfl | exact Or.inr rfl)) (fun _ _ _ _ _ c214 => (ej_tup (dj_cons (ej_methZ d_Search__worst (hr.mono (by decide)) gu (ej_vk 4) (aj_cons (ej_vk 0) (aj_cons (ej_vk 6) aj_nil))) (dj_cons (ej_vk 6) dj_nil)))))))) ej_int (fun _ _ => rfl)))))))))))))
abbrev s__law_due : Stmt := top 33
theorem sc__law_due : FnScope ["_law_stock_here", "_law_collections", "_law_counts", "_law_totals_here", "_law_known", "_law_found", "_law_at", "_law_one", "_law_other"] ["_law_stock_here", "_law_collections", "_law_counts"] (defScope s__law_due) := ⟨rfl, rfl, rfl, by decide +kernel, rfl, by decide +kernel, by decide +kernel⟩
def m__law_due (p_stock_here p_collections p_counts : D) : Z D := ((OverZ.up (hidP (m' := Option) [.val p_stock_here, .any, .val p_counts, .any, .any, .any, .any, .any, .any] (op1 tupleD (lstM (comp2 (zip2M (pure p_counts) ((argV (pure p_stock_here) (pure [])) >>= M__law_totals)) (fun c216 c217 => (op2 addD (pure c216) (pure c217)))))))) >>= fun v215 => (iteM (OverZ.up (hidP (m' := Option) [.any, .val p_collections, .val p_counts, .val v215, .any, .any, .any, .any, .any] (orB (tst ((argV (pure p_collections) (argV (pure p_counts) (pure []))) >>= M__law_has)) (notB (tst ((argV (pure p_collections) (argV (pure v215) (pure []))) >>= M__law_has)))))) (pure PyData.none) ((parM (OverZ.up newK) (pure [])) >>= fun v218 => (forM1 (rng1 (op1 lenD (pure p_stock_here))) v218.2 (fun x220 (a219 : List D) => ((cmp2 gtD (op1 sumD (op2 getD (pure p_stock_here) (pure x220))) (pure (.int 0))) >>= fun k => (if k = true then (((tupM (consM ((argV (pure v218.1) (argV (pure p_stock_here) (argV (pure p_collections) (argV (pure p_counts) (argV (pure x220) (pure [])))))) >>= M__law_worst) (consM (pure x220) (pure [])))) >>= fun d => Mo.lift (fits a219.length) >>= fun _ => pure d) >>= fun v222 => (pure (.nx (a219 ++ [v222])))) else (pure (.nx a219))) >>= fun f => thenB f fun (a221 : List D) => (pure (.nx a221)))) >>= fun f => thenM f fun (a223 : List D) => (op2 getD (op1 minAD (pure (PyData.list a223))) (pure (.int 1)))))))
def M__law_due : List Sl → Z D := ar3 m__law_due
theorem ok__law_due {f : Addr} {fd : FuncData} (F : Fun K "_law_due" "_law_due" s__law_due f fd) (hy : SysAt base) (d__law_has : Def P w K mg base 1 "_law_has" ["_law_collections", "_law_counts"] (spJ K M__law_has)) (d__law_totals : Def P w K mg base 1 "_law_totals" ["_law_stock_here"] (spJ K M__law_totals)) (d__law_worst : Def P w K mg base 37 "_law_worst" ["_law_known", "_law_stock_here", "_law_collections", "_law_counts", "_law_at"] (spJ K M__law_worst)) (mb_len : mg "len" = none) (mb_min : mg "min" = none) (mb_range : mg "range" = none) (mb_sum : mg "sum" = none) (mb_tuple : mg "tuple" = none) (mb_zip : mg "zip" = none) : FnG P w K mg base 38 f fd ["_law_stock_here", "_law_collections", "_law_counts"] (spJ K M__law_due) := by
  have sc := sc__law_due
  exact fn_ar3 F sc rfl fun p_stock_here p_collections p_counts cdv A outer s H E hr gu => (fj_seq (sj_set 3 sc.nd (ej_hidP (m' := Option) (g := [.val p_stock_here, .val p_collections, .val p_counts, .any, .any, .any, .any, .any, .any]) [.val p_stock_here, .any, .val p_counts, .any, .any, .any, .any, .any, .any] (ej_callT call_tuple_of rc_tuple mb_tuple (ej_l (LcP.expr (lj_lc2 [("_law_one", 7), ("_law_other", 8)] 7 8 sc.nd (ij_zip2 mb_zip (ej_vk 2) (ej_callD d__law_totals (hr.mono (by decide)) gu (aj_cons (ej_vk 0) aj_nil))) (blk_of (by kernel_rfl)) (fun _ _ _ _ _ => pg_tup rfl (pgs_cons (pg_name (i := 7) sc.nd rfl (by first | exact Or.inl rfl | exact Or.inr rfl)) (pgs_cons (pg_name (i := 8) sc.nd rfl (by first | exact Or.inl rfl | exact Or.inr rfl)) pgs_nil))) (fun _ _ _ _ _ c216 c217 => (ej_bin op_addD rd_add (ej_vk 7) (ej_vk 8))))))) ⟨.inr rfl, .inl rfl, .inr rfl, .inl rfl, .inl rfl, .inl rfl, .inl rfl, .inl rfl, .inl rfl, trivial⟩)) (fun v215 => (fj_ifr (tj_hidP (m' := Option) (g := [.val p_stock_here, .val p_collections, .val p_counts, .val v215, .any, .any, .any, .any, .any]) [.any, .val p_collections, .val p_counts, .val v215, .any, .any, .any, .any, .any] (tj_w (wj_or (tj_val (ej_callD d__law_has (hr.mono (by decide)) gu (aj_cons (ej_vk 1) (aj_cons (ej_vk 2) aj_nil)))) (wj_or1 (tj_not (tj_val (ej_callD d__law_has (hr.mono (by decide)) gu (aj_cons (ej_vk 1) (aj_cons (ej_vk 3) aj_nil)))))))) ⟨.inl rfl, .inr rfl, .inr rfl, .inr rfl, .inl rfl, .inl rfl, .inl rfl, .inl rfl, .inl rfl, trivial⟩) (fj_ret ej_non) (fj_seq (sj_parO 4 5 sc.nd ej_newK (lj_lst dj_nil)) (fun v218 => (fj_of_for (for1 6 (P := fun (a219 : List D) => [.val p_stock_here, .val p_collections, .val p_counts, .val v215, .val v218.1, .own a219, .any, .any, .any]) (a0 := v218.2) PassesOwn.never (ij_range1 mb_range (ej_call1 call_lenD' rc_len mb_len (ej_vk 0))) (pg_name (i := 6) sc.nd rfl (by first | exact Or.inl rfl | exact Or.inr rfl)) (fun x220 a219 => (bj_if (P := fun (a221 : List D) => [.val p_stock_here, .val p_collections, .val p_counts, .val v215, .val v218.1, .own a221, .val x220, .any, .any]) (tj_cmp op_gt rd_gt (ej_call1 (call_sumD rfl) rc_sum mb_sum (ej_ix ix_seq rd_ix (ej_vk 0) (ej_vk 6) (fun _ _ => rfl))) ej_int) (bj_seq (sj_append 5 (ej_tup (dj_cons (ej_callD d__law_worst (hr.mono (by decide)) gu (aj_cons (ej_vk 4) (aj_cons (ej_vk 0) (aj_cons (ej_vk 1) (aj_cons (ej_vk 2) (aj_cons (ej_vk 6) aj_nil)))))) (dj_cons (ej_vk 6) dj_nil)))) (fun v222 => (bj_nil (a := (a219 ++ [v222])) ⟨.inr rfl, .inr rfl, .inr rfl, .inr rfl, .inr rfl, .inr rfl, .inr rfl, .inl rfl, .inl rfl, trivial⟩))) (bj_nil (a := a219) ⟨.inr rfl, .inr rfl, .inr rfl, .inr rfl, .inr rfl, .inr rfl, .inr rfl, .inl rfl, .inl rfl, trivial⟩) (fun a221 => (bj_nil (a := a221) ⟨.inr rfl, .inr rfl, .inr rfl, .inr rfl, .inr rfl, .inr rfl, .inl rfl, .inl rfl, .inl rfl, trivial⟩)))) ⟨.inr rfl, .inr rfl, .inr rfl, .inr rfl, .inr rfl, .inr rfl, .inl rfl, .inl rfl, .inl rfl, trivial⟩) (fun a223 => (fj_fr 5 (fj_ret (ej_ix ix_seq rd_ix (ej_call1 (by exact call_minA rfl hy (units_of hr)) rc_minA mb_min (ej_vk 5)) ej_int (fun _ _ => rfl)))))))))))
abbrev s__law_told : Stmt := top 32
theorem sc__law_told : FnScope ["_law_call", "e", "_law_is_other"] ["_law_call"] (defScope s__law_told) := ⟨rfl, rfl, rfl, by decide +kernel, rfl, by decide +kernel, by decide +kernel⟩
def m__law_told (yL : ZX D) : Z D := ((Tr.try_ (m₁ := ZX) (rtM yL) (fun e => (exc1 "TooLarge" "bound" e (fun f225 => ((pure (.bool false)) >>= fun v226 => (iteM (andB (tst (pure (.bool true))) (andB (tst (pure (.bool true))) (notB (tst (pure v226))))) (rtM (lstM (consM (pure (.str "large")) (consM (pure f225) (pure []))))) (pure (.nx ()))))) (Mo.lift none)))) >>= fun f => thenM f fun (a224 : Unit) => (lstM (consM (pure (.str "other")) (pure []))))
theorem okl__law_told {f : Addr} {fd : FuncData} (F : Fun K "_law_told" "_law_told" s__law_told f fd) (em : mg "_law_told" = some (.ref f)) (kk : PySem.W.keepIn K (.ref f) = true) (bb : Binds K fd ["_law_call"] []) (hy : SysAt base) {c_BadPlan c_BadWish c_DrawerError c_TooFew c_TooFull c_TooLarge c_TooMuch : Addr} (er_TooLarge : ErK K c_TooLarge) (kit_TooLarge_BadPlan_BadWish_TooFew_TooFull_TooMuch : PySem.W.kitAny K (.ref c_TooLarge) [(.ref c_BadPlan), (.ref c_BadWish), (.ref c_TooFew), (.ref c_TooFull), (.ref c_TooMuch)] = some false) (kit_TooLarge_TooLarge : PySem.W.kitOne K (.ref c_TooLarge) (.ref c_TooLarge) = some true) (kit_TooLarge_ValueError : PySem.W.kitOne K (.ref c_TooLarge) (.type "ValueError") = some true) (mC_BadPlan : mg "BadPlan" = some (.ref c_BadPlan)) (mC_BadWish : mg "BadWish" = some (.ref c_BadWish)) (mC_DrawerError : mg "DrawerError" = some (.ref c_DrawerError)) (mC_TooFew : mg "TooFew" = some (.ref c_TooFew)) (mC_TooFull : mg "TooFull" = some (.ref c_TooFull)) (mC_TooLarge : mg "TooLarge" = some (.ref c_TooLarge)) (mC_TooMuch : mg "TooMuch" = some (.ref c_TooMuch)) (no_TooLarge_bound : PySem.W.findIn K (.ref c_TooLarge) "bound" = some none) (xm_TooLarge_DrawerError : PySem.W.exmOne K (.ref c_TooLarge) (.ref c_DrawerError) = some true) (mb_ValueError : mg "ValueError" = none) (mb_isinstance : mg "isinstance" = none) : FnL P w K mg base 39 "_law_told" s__law_told ["_law_call", "e", "_law_is_other"] "_law_call" m__law_told := by
  have sc := sc__law_told
  exact ⟨⟨f, fd, F, sc, em, kk, bb, rfl, (by first | exact Or.inl rfl | exact Or.inr (Or.inl rfl)), fun fu Fp cdv A outer s H E yL hr gu hact => (fj_of_for (try_as 1 (gk := [.fn fu Fp, .any, .any]) (P := fun (a224 : Unit) => [.fn fu Fp, .any, .any]) rfl rfl sc.nd rfl rfl ⟨rfl, by decide, .inl mC_DrawerError⟩ takes00 (fun e n φ ξ s C hC => (exc1_pick s (fun z => pick_cls (Q := fun C => PySem.W.exmOne _ (.ref C) _ = some true) z mC_TooLarge hC xm_TooLarge_DrawerError) (fun s => (no_sat s)))) (fun _ => rfl) (fun W pn xe tk hpo => (bj_ret (hact _ _ _ _ _ _ tk ⟨.inr rfl, .inl rfl, .inl rfl, trivial⟩ rfl))) (fun e a oe od C pn hh => (suite1 (i := 1) hh mC_TooLarge (fun f225 hh => (bj_seq (sj_set 2 sc.nd (ej_isXT 1 hh er_TooLarge kit_TooLarge_BadPlan_BadWish_TooFew_TooFull_TooMuch (.cons ⟨rfl, by decide, .inl mC_BadPlan⟩ (ClsV.ofC _) rfl (.cons ⟨rfl, by decide, .inl mC_BadWish⟩ (ClsV.ofC _) rfl (.cons ⟨rfl, by decide, .inl mC_TooFew⟩ (ClsV.ofC _) rfl (.cons ⟨rfl, by decide, .inl mC_TooFull⟩ (ClsV.ofC _) rfl (.cons ⟨rfl, by decide, .inl mC_TooMuch⟩ (ClsV.ofC _) rfl .nil))))) mb_isinstance)) (fun v226 => (bj_ifr (tj_w (wj_and (tj_val (by exact ej_isX 1 hh er_TooLarge kit_TooLarge_TooLarge ⟨rfl, by decide, .inl mC_TooLarge⟩ (ClsV.ofC _) mb_isinstance)) (wj_and (tj_val (by exact ej_isX 1 hh er_TooLarge kit_TooLarge_ValueError ⟨rfl, by decide, .inr ⟨mb_ValueError, by decide +kernel, by decide⟩⟩ (ClsV.ofT _) mb_isinstance)) (wj_and1 (tj_not (tj_val (ej_vk 2))))))) (fj_ret (ej_l (lj_lst (dj_cons ej_str (dj_cons (ej_xf 1 hh er_TooLarge no_TooLarge_bound) dj_nil))))) (bj_nil (a := ()) ⟨.inr rfl, .inl rfl, .inl rfl, trivial⟩))))) bj_no))) (fun a224 => (fj_ret (ej_l (lj_lst (dj_cons ej_str dj_nil))))))⟩⟩
abbrev s_law : Stmt := top 34
theorem sc_law : FnScope ["_law_script", "_law_drawn", "_law_turn", "_law_hard", "_law_near", "_law_some", "_law_before", "_law_due_here", "_law_again", "_law_few", "_law_told_here", "_law_collections", "_law_counts", "_law_kinds", "_law_stock_here", "_law_wide", "_law_wish", "_law_many", "_law_k"] ["_law_script"] (defScope s_law) := ⟨rfl, rfl, rfl, by decide +kernel, rfl, by decide +kernel, by decide +kernel⟩
def qL : Str := "law.<locals>.<lambda>"
def m_law (tP : Addr) : Z D := (forM1 (rng1 (pure (.int 4))) () (fun x228 (a227 : Unit) => (((argV (pure (refL 0)) (argV (pure (.int 4)) (argV (pure (.int 7)) (pure [])))) >>= M__law_stock) >>= fun v229 => ((op1 lenD (op2 getD (pure v229) (pure (.int 0)))) >>= fun v230 => (((argV (pure (refL 0)) (argV (pure v230) (argV (pure (.int 3)) (pure [])))) >>= M__law_wished) >>= fun v231 => (((argV (pure (refL 0)) (argV (pure v230) (argV (pure (.int 50)) (pure [])))) >>= M__law_wished) >>= fun v232 => ((op1 tupleD (lstM (comp1 (seqM (op2 getD (pure v232) (pure (.int 0)))) (fun c234 => (op2 max2D (pure (.int 0)) (op2 subD (pure c234) ((argV (pure (refL 0)) (argV (pure (.int 4)) (pure []))) >>= M__law_next))))))) >>= fun v233 => ((consM (tupM (consM (pure v231) (consM (op2 mulD (tupM (consM (pure (.int 0)) (pure []))) (pure v230)) (pure [])))) (consM (tupM (consM (pure v232) (consM (pure v233) (pure [])))) (pure []))) >>= fun v235 => (((tupM (consM (pure v231) (consM (op1 tupleD (lstM (comp1 (rng1 (pure v230)) (fun c237 => ((argV (pure (refL 0)) (argV (pure (.int 3)) (pure []))) >>= M__law_next))))) (pure [])))) >>= fun d => Mo.lift (fits v235.length) >>= fun _ => pure d) >>= fun v236 => (((tupM (consM (pure v231) (consM (op2 addD (tupM (consM (op2 mulD (op2 powD (pure (.int 10)) (pure (.int 6))) ((argV (pure (refL 0)) (argV (pure (.int 2)) (pure []))) >>= M__law_next)) (pure []))) (op2 mulD (tupM (consM (pure (.int 0)) (pure []))) (op2 subD (pure v230) (pure (.int 1))))) (pure [])))) >>= fun d => Mo.lift (fits (v235 ++ [v236]).length) >>= fun _ => pure d) >>= fun v238 => (forM2 (seqM (pure (PyData.list ((v235 ++ [v236]) ++ [v238])))) () (fun x240 x241 (a239 : Unit) => ((parM (op1 reprD (lstM (consM (pure v229) (consM (pure x240) (consM (pure x241) (pure [])))))) ((argV (pure v229) (argV (pure x240) (argV (pure x241) (pure [])))) >>= M__law_due)) >>= fun v242 => (forM1 (rng1 (pure (.int 2))) () (fun x244 (a243 : Unit) => (iteM (cmp2 neD (op1 reprD (tabZ 3 tP qL >>= fun _ => m__law_told ((argV (upZ (pure v229)) (argV (upZ (pure x240)) (argV (upZ (pure x241)) (pure [])))) >>= MX_next_drawer))) (op1 reprD (pure v242.2))) (rtM (pure (.bool false))) (pure (.nx ())))) >>= fun f => thenB f fun (a245 : Unit) => (iteM (cmp2 neD (op1 reprD (lstM (consM (pure v229) (consM (pure x240) (consM (pure x241) (pure [])))))) (pure v242.1)) (rtM (pure (.bool false))) (pure (.nx ())))))) >>= fun f => thenB f fun (a246 : Unit) => (pure (.nx ())))))))))))) >>= fun f => thenM f fun (a247 : Unit) => ((op2 addD (pure (.int 1)) ((argV (pure (refL 0)) (argV (pure (.int 6)) (pure []))) >>= M__law_next)) >>= fun v248 => ((unp2A (tupM (consM (tupM (consM (tupM (consM (pure v248) (consM (op2 subD (pure (.int 7)) (pure v248)) (pure [])))) (consM (tupM (consM (pure (.int 4)) (consM (pure (.int 3)) (pure [])))) (pure [])))) (consM ((argV (pure (refL 0)) (argV (pure (.int 2)) (argV (pure (.int 6)) (pure [])))) >>= M__law_wished) (pure []))))) >>= fun v249 => ((tupM (consM ((argV (pure (refL 0)) (argV (pure (.int 2)) (pure []))) >>= M__law_next) (consM (pure (.int 0)) (pure [])))) >>= fun v250 => (((argV (pure v249.1) (argV (pure v249.2) (argV (pure v250) (pure [])))) >>= M__law_due) >>= fun v251 => (iteM (cmp2 neD (op1 reprD (tabZ 3 tP qL >>= fun _ => m__law_told ((argV (upZ (pure v249.1)) (argV (upZ (pure v249.2)) (argV (upZ (pure v250)) (pure [])))) >>= MX_next_drawer))) (op1 reprD (pure v251))) (pure (.bool false)) ((op2 getD (lstM (consM (tupM (consM (tupM (consM (pure (.int 8)) (consM (pure (.int 0)) (pure [])))) (consM (tupM (consM (pure (.int 0)) (consM (pure (.int 7)) (pure [])))) (pure [])))) (consM (tupM (consM (tupM (consM (pure (.int 15)) (pure []))) (pure []))) (consM (op2 mulD (tupM (consM (op2 mulD (tupM (consM (pure (.int 50)) (pure []))) (pure (.int 4))) (pure []))) (pure (.int 4))) (pure []))))) ((argV (pure (refL 0)) (argV (pure (.int 3)) (pure []))) >>= M__law_next)) >>= fun v252 => ((op1 lenD (op2 getD (pure v252) (pure (.int 0)))) >>= fun v253 => ((parM (tupM (consM (op2 mulD (tupM (consM (pure (.int 1)) (pure []))) (pure v253)) (pure []))) (pure [])) >>= fun v254 => (forM1 (seqM (lstM (consM (op2 mulD (tupM (consM (pure (.int 0)) (pure []))) (pure v253)) (consM (op2 mulD (tupM (consM (pure (.int 1)) (pure []))) (pure v253)) (pure []))))) v254.2 (fun x256 (a255 : List D) => (((tabZ 3 tP qL >>= fun _ => m__law_told ((argV (upZ (pure v252)) (argV (upZ (pure v254.1)) (argV (upZ (pure x256)) (pure [])))) >>= MX_next_drawer)) >>= fun d => Mo.lift (fits a255.length) >>= fun _ => pure d) >>= fun v257 => (pure (.nx (a255 ++ [v257]))))) >>= fun f => thenM f fun (a258 : List D) => (((tabZ 3 tP qL >>= fun _ => m__law_told ((argV (upZ (pure v252)) (argV (upZ (tupM (consM (op2 mulD (tupM (consM (pure (.int 50)) (pure []))) (pure v253)) (pure [])))) (argV (upZ (op2 mulD (tupM (consM (pure (.int 0)) (pure []))) (pure v253))) (pure [])))) >>= MX_next_drawer)) >>= fun d => Mo.lift (fits a258.length) >>= fun _ => pure d) >>= fun v259 => (op2 eqD (pure (PyData.list (a258 ++ [v259]))) (op2 mulD (lstM (consM (lstM (consM (pure (.str "large")) (consM (pure (.int 14)) (pure [])))) (pure []))) (pure (.int 3)))))))))))))))
theorem ok_law {f c9 tP : Addr} {fd : FuncData} (F : Fun K "law" "law" s_law f fd) (hfc : fd.code = .ref c9) (TB : LamX.TabB base mg c9 tP) (hy : SysAt base) (d__law_due : Def P w K mg base 38 "_law_due" ["_law_stock_here", "_law_collections", "_law_counts"] (spJ K M__law_due)) (d__law_next : Def P w K mg base 1 "_law_next" ["_law_drawn", "_law_many"] (spJ K M__law_next)) (d__law_stock : Def P w K mg base 2 "_law_stock" ["_law_drawn", "_law_drawers", "_law_things"] (spJ K M__law_stock)) (dl__law_told : FnL P w K mg base 39 "_law_told" s__law_told ["_law_call", "e", "_law_is_other"] "_law_call" m__law_told) (d__law_wished : Def P w K mg base 2 "_law_wished" ["_law_drawn", "_law_kinds", "_law_most"] (spJ K M__law_wished)) (dx_next_drawer : DefX P w K mg base 38 "next_drawer" ["stock", "collections", "counts"] (spX K mg MX_next_drawer)) (mb_len : mg "len" = none) (mb_max : mg "max" = none) (mb_range : mg "range" = none) (mb_repr : mg "repr" = none) (mb_tuple : mg "tuple" = none) (d__law_draws : Def P w K mg base 1 "_law_draws" ["_law_script"] (spDeckZ K)) (hM : ∀ (tP : Addr) (cs rs : List Int), cs.length = rs.length → 0 < cs.length → cs.length ≤ 64 → (∀ r ∈ rs, 0 ≤ r) → m_law tP ⟨0, deck3 0 cs rs ++ [.tab tP qL]⟩ (fun d _ => d = .bool true)) : FnG P w K mg base 41 f fd ["_law_script"] (spLawT K tP) := by
  have sc := sc_law
  obtain ⟨fk, fkd, h1, h2, h3, h4⟩ := d__law_draws.ex
  exact law_jT (M := m_law tP) (q9 := qL) F hfc sc (h1.mono (by decide)) h4 h2 rfl rfl rfl
    (fun cdv A outer s H E hr gu => ps_set (i := 1) sc.nd rfl (by first | exact Or.inl rfl | exact Or.inr rfl) (pe_g h1 (hr.mono (by decide)) gu (by rfl) h2 h3 h4 (pa_cons (pv 0) pa_nil) (by decide) (by rfl) (by rfl)))
    (fun A outer s H E hr gu => have hcode : (cxOf CX0 P w K mg base ["_law_script", "_law_drawn", "_law_turn", "_law_hard", "_law_near", "_law_some", "_law_before", "_law_due_here", "_law_again", "_law_few", "_law_told_here", "_law_collections", "_law_counts", "_law_kinds", "_law_stock_here", "_law_wide", "_law_wish", "_law_many", "_law_k"] "law" (defScope s_law) f (.ref c9) A outer s H E).nox.env.code = .ref c9 := rfl; (fj_of_for (for1 2 (P := fun (a227 : Unit) => [.any, .val (refL 0), .any, .any, .any, .any, .any, .any, .any, .any, .any, .any, .any, .any, .any, .any, .any, .any, .any]) (a0 := ()) PassesOwn.never (ij_range1 mb_range ej_int) (pg_name (i := 2) sc.nd rfl (by first | exact Or.inl rfl | exact Or.inr rfl)) (fun x228 a227 => (bj_seq (sj_set 14 sc.nd (ej_callD d__law_stock (hr.mono (by decide)) gu (aj_cons (ej_vk 1) (aj_cons ej_int (aj_cons ej_int aj_nil))))) (fun v229 => (bj_seq (sj_set 13 sc.nd (ej_call1 call_lenD' rc_len mb_len (ej_ix ix_seq rd_ix (ej_vk 14) ej_int (fun _ _ => rfl)))) (fun v230 => (bj_seq (sj_set 11 sc.nd (ej_callD d__law_wished (hr.mono (by decide)) gu (aj_cons (ej_vk 1) (aj_cons (ej_vk 13) (aj_cons ej_int aj_nil))))) (fun v231 => (bj_seq (sj_set 3 sc.nd (ej_callD d__law_wished (hr.mono (by decide)) gu (aj_cons (ej_vk 1) (aj_cons (ej_vk 13) (aj_cons ej_int aj_nil))))) (fun v232 => (bj_seq (sj_set 4 sc.nd (ej_callT call_tuple_of rc_tuple mb_tuple (ej_l (LcP.expr (lj_lc1 [("_law_many", 17)] 17 sc.nd (ij_seq (ej_ix ix_seq rd_ix (ej_vk 3) ej_int (fun _ _ => rfl))) (blk_of (by kernel_rfl)) (fun _ _ _ _ _ => pg_name (i := 17) sc.nd rfl (by first | exact Or.inl rfl | exact Or.inr rfl)) (fun _ _ _ _ _ c234 => (ej_call2 (call_max2 rfl) rc_max2 mb_max ej_int (ej_bin op_sub rd_sub (ej_vk 17) (ej_callD d__law_next (hr.mono (by decide)) gu (aj_cons (ej_vk 1) (aj_cons ej_int aj_nil))))))))))) (fun v233 => (bj_seq (sj_setO 5 sc.nd (lj_lst (dj_cons (ej_tup (dj_cons (ej_vk 11) (dj_cons (ej_bin op_mulD rd_mul (ej_tup (dj_cons ej_int dj_nil)) (ej_vk 13)) dj_nil))) (dj_cons (ej_tup (dj_cons (ej_vk 3) (dj_cons (ej_vk 4) dj_nil))) dj_nil)))) (fun v235 => (bj_seq (sj_append 5 (ej_tup (dj_cons (ej_vk 11) (dj_cons (ej_callT call_tuple_of rc_tuple mb_tuple (ej_l (LcP.expr (lj_lc1 [("_law_k", 18)] 18 sc.nd (ij_range1 mb_range (ej_vk 13)) (blk_of (by kernel_rfl)) (fun _ _ _ _ _ => pg_name (i := 18) sc.nd rfl (by first | exact Or.inl rfl | exact Or.inr rfl)) (fun _ _ _ _ _ c237 => (ej_callD d__law_next (hr.mono (by decide)) gu (aj_cons (ej_vk 1) (aj_cons ej_int aj_nil)))))))) dj_nil)))) (fun v236 => (bj_seq (sj_append 5 (ej_tup (dj_cons (ej_vk 11) (dj_cons (ej_bin op_addD rd_add (ej_tup (dj_cons (ej_bin op_mulD rd_mul (ej_bin op_pow rd_pow ej_int ej_int) (ej_callD d__law_next (hr.mono (by decide)) gu (aj_cons (ej_vk 1) (aj_cons ej_int aj_nil)))) dj_nil)) (ej_bin op_mulD rd_mul (ej_tup (dj_cons ej_int dj_nil)) (ej_bin op_sub rd_sub (ej_vk 13) ej_int))) dj_nil)))) (fun v238 => (bj_fr 5 (bj_of_for (for2 16 12 (P := fun (a239 : Unit) => [.any, .val (refL 0), .val x228, .val v232, .val v233, .val (PyData.list ((v235 ++ [v236]) ++ [v238])), .any, .any, .any, .any, .any, .val v231, .any, .val v230, .val v229, .any, .any, .any, .any]) (a0 := ()) PassesOwn.never (ij_seq (ej_vk 5)) (pg_tup rfl (pgs_cons (pg_name (i := 16) sc.nd rfl (by first | exact Or.inl rfl | exact Or.inr rfl)) (pgs_cons (pg_name (i := 12) sc.nd rfl (by first | exact Or.inl rfl | exact Or.inr rfl)) pgs_nil))) (fun x240 x241 a239 => (bj_seq (sj_par 6 7 sc.nd (ej_call1 (by exact call_repr hy (units_of hr) gu) rc_repr mb_repr (ej_l (lj_lst (dj_cons (ej_vk 14) (dj_cons (ej_vk 16) (dj_cons (ej_vk 12) dj_nil)))))) (ej_callD d__law_due (hr.mono (by decide)) gu (aj_cons (ej_vk 14) (aj_cons (ej_vk 16) (aj_cons (ej_vk 12) aj_nil))))) (fun v242 => (bj_of_for (for1 8 (P := fun (a243 : Unit) => [.any, .val (refL 0), .val x228, .val v232, .val v233, .val (PyData.list ((v235 ++ [v236]) ++ [v238])), .val v242.1, .val v242.2, .any, .any, .any, .val v231, .val x241, .val v230, .val v229, .any, .val x240, .any, .any]) (a0 := ()) PassesOwn.never (ij_range1 mb_range ej_int) (pg_name (i := 8) sc.nd rfl (by first | exact Or.inl rfl | exact Or.inr rfl)) (fun x244 a243 => (bj_ifr (tj_cmp (by exact op_neA hy (units_of hr)) rd_ne (ej_call1 (by exact call_repr hy (units_of hr) gu) rc_repr mb_repr (ej_lamcall (q := qL) (g := [.any, .val (refL 0), .val x228, .val v232, .val v233, .val (PyData.list ((v235 ++ [v236]) ++ [v238])), .val v242.1, .val v242.2, .val x244, .any, .any, .val v231, .val x241, .val v230, .val v229, .any, .val x240, .any, .any]) [.any, .any, .any, .any, .any, .any, .any, .any, .any, .any, .any, .any, .val x241, .any, .val v229, .any, .val x240, .any, .any] (j := 38) dl__law_told (by decide) (hr.mono (by decide)) gu TB hcode (by kernel_rfl) (LamX.lamS_by (by kernel_rfl)) rfl (fun _ _ _ _ _ => rfl) ⟨.inl rfl, .inl rfl, .inl rfl, .inl rfl, .inl rfl, .inl rfl, .inl rfl, .inl rfl, .inl rfl, .inl rfl, .inl rfl, .inl rfl, .inr rfl, .inl rfl, .inr rfl, .inl rfl, .inr rfl, .inl rfl, .inl rfl, trivial⟩ rfl (fun _ _ A outer s H E hr gu => (ej_callXD dx_next_drawer (hr.mono (by decide)) gu takesL (sub_self _) (aj_cons (ej_up (m' := Z) (ej_vk 14)) (aj_cons (ej_up (m' := Z) (ej_vk 16)) (aj_cons (ej_up (m' := Z) (ej_vk 12)) aj_nil))))))) (ej_call1 (by exact call_repr hy (units_of hr) gu) rc_repr mb_repr (ej_vk 7))) (fj_ret ej_bl) (bj_nil (a := ()) ⟨.inl rfl, .inr rfl, .inr rfl, .inr rfl, .inr rfl, .inr rfl, .inr rfl, .inr rfl, .inl rfl, .inl rfl, .inl rfl, .inr rfl, .inr rfl, .inr rfl, .inr rfl, .inl rfl, .inr rfl, .inl rfl, .inl rfl, trivial⟩))) ⟨.inl rfl, .inr rfl, .inr rfl, .inr rfl, .inr rfl, .inr rfl, .inr rfl, .inr rfl, .inl rfl, .inl rfl, .inl rfl, .inr rfl, .inr rfl, .inr rfl, .inr rfl, .inl rfl, .inr rfl, .inl rfl, .inl rfl, trivial⟩) (fun a245 => (bj_ifr (tj_cmp (by exact op_neA hy (units_of hr)) rd_ne (ej_call1 (by exact call_repr hy (units_of hr) gu) rc_repr mb_repr (ej_l (lj_lst (dj_cons (ej_vk 14) (dj_cons (ej_vk 16) (dj_cons (ej_vk 12) dj_nil)))))) (ej_vk 6)) (fj_ret ej_bl) (bj_nil (a := ()) ⟨.inl rfl, .inr rfl, .inr rfl, .inr rfl, .inr rfl, .inr rfl, .inl rfl, .inl rfl, .inl rfl, .inl rfl, .inl rfl, .inr rfl, .inl rfl, .inr rfl, .inr rfl, .inl rfl, .inl rfl, .inl rfl, .inl rfl, trivial⟩))))))) ⟨.inl rfl, .inr rfl, .inr rfl, .inr rfl, .inr rfl, .inr rfl, .inl rfl, .inl rfl, .inl rfl, .inl rfl, .inl rfl, .inr rfl, .inl rfl, .inr rfl, .inr rfl, .inl rfl, .inl rfl, .inl rfl, .inl rfl, trivial⟩) (fun a246 => (bj_nil (a := ()) ⟨.inl rfl, .inr rfl, .inl rfl, .inl rfl, .inl rfl, .inl rfl, .inl rfl, .inl rfl, .inl rfl, .inl rfl, .inl rfl, .inl rfl, .inl rfl, .inl rfl, .inl rfl, .inl rfl, .inl rfl, .inl rfl, .inl rfl, trivial⟩))))))))))))))))))))) ⟨.inl rfl, .inr rfl, .inl rfl, .inl rfl, .inl rfl, .inl rfl, .inl rfl, .inl rfl, .inl rfl, .inl rfl, .inl rfl, .inl rfl, .inl rfl, .inl rfl, .inl rfl, .inl rfl, .inl rfl, .inl rfl, .inl rfl, trivial⟩) (fun a247 => (fj_seq (sj_set 9 sc.nd (ej_bin op_addD rd_add ej_int (ej_callD d__law_next (hr.mono (by decide)) gu (aj_cons (ej_vk 1) (aj_cons ej_int aj_nil))))) (fun v248 => (fj_seq (sj_unp2A 14 11 (ej_tup (dj_cons (ej_tup (dj_cons (ej_tup (dj_cons (ej_vk 9) (dj_cons (ej_bin op_sub rd_sub ej_int (ej_vk 9)) dj_nil))) (dj_cons (ej_tup (dj_cons ej_int (dj_cons ej_int dj_nil))) dj_nil))) (dj_cons (ej_callD d__law_wished (hr.mono (by decide)) gu (aj_cons (ej_vk 1) (aj_cons ej_int (aj_cons ej_int aj_nil)))) dj_nil))) (pg_tup rfl (pgs_cons (pg_name (i := 14) sc.nd rfl (by first | exact Or.inl rfl | exact Or.inr rfl)) (pgs_cons (pg_name (i := 11) sc.nd rfl (by first | exact Or.inl rfl | exact Or.inr rfl)) pgs_nil))) (pg_unl rfl (pgs_cons (pg_name (i := 14) sc.nd rfl (by first | exact Or.inl rfl | exact Or.inr rfl)) (pgs_cons (pg_name (i := 11) sc.nd rfl (by first | exact Or.inl rfl | exact Or.inr rfl)) pgs_nil)))) (fun v249 => (fj_seq (sj_set 12 sc.nd (ej_tup (dj_cons (ej_callD d__law_next (hr.mono (by decide)) gu (aj_cons (ej_vk 1) (aj_cons ej_int aj_nil))) (dj_cons ej_int dj_nil)))) (fun v250 => (fj_seq (sj_set 7 sc.nd (ej_callD d__law_due (hr.mono (by decide)) gu (aj_cons (ej_vk 14) (aj_cons (ej_vk 11) (aj_cons (ej_vk 12) aj_nil))))) (fun v251 => (fj_ifr (tj_cmp (by exact op_neA hy (units_of hr)) rd_ne (ej_call1 (by exact call_repr hy (units_of hr) gu) rc_repr mb_repr (ej_lamcall (q := qL) (g := [.any, .val (refL 0), .any, .any, .any, .any, .any, .val v251, .any, .val v248, .any, .val v249.2, .val v250, .any, .val v249.1, .any, .any, .any, .any]) [.any, .any, .any, .any, .any, .any, .any, .any, .any, .any, .any, .val v249.2, .val v250, .any, .val v249.1, .any, .any, .any, .any] (j := 38) dl__law_told (by decide) (hr.mono (by decide)) gu TB hcode (by kernel_rfl) (LamX.lamS_by (by kernel_rfl)) rfl (fun _ _ _ _ _ => rfl) ⟨.inl rfl, .inl rfl, .inl rfl, .inl rfl, .inl rfl, .inl rfl, .inl rfl, .inl rfl, .inl rfl, .inl rfl, .inl rfl, .inr rfl, .inr rfl, .inl rfl, .inr rfl, .inl rfl, .inl rfl, .inl rfl, .inl rfl, trivial⟩ rfl (fun _ _ A outer s H E hr gu => (ej_callXD dx_next_drawer (hr.mono (by decide)) gu takesL (sub_self _) (aj_cons (ej_up (m' := Z) (ej_vk 14)) (aj_cons (ej_up (m' := Z) (ej_vk 11)) (aj_cons (ej_up (m' := Z) (ej_vk 12)) aj_nil))))))) (ej_call1 (by exact call_repr hy (units_of hr) gu) rc_repr mb_repr (ej_vk 7))) (fj_ret ej_bl) (fj_seq (sj_set 15 sc.nd (ej_ix ix_seq rd_ix (ej_l (lj_lst (dj_cons (ej_tup (dj_cons (ej_tup (dj_cons ej_int (dj_cons ej_int dj_nil))) (dj_cons (ej_tup (dj_cons ej_int (dj_cons ej_int dj_nil))) dj_nil))) (dj_cons (ej_tup (dj_cons (ej_tup (dj_cons ej_int dj_nil)) dj_nil)) (dj_cons (ej_bin op_mulD rd_mul (ej_tup (dj_cons (ej_bin op_mulD rd_mul (ej_tup (dj_cons ej_int dj_nil)) ej_int) dj_nil)) ej_int) dj_nil))))) (ej_callD d__law_next (hr.mono (by decide)) gu (aj_cons (ej_vk 1) (aj_cons ej_int aj_nil))) (fun _ _ => rfl))) (fun v252 => (fj_seq (sj_set 13 sc.nd (ej_call1 call_lenD' rc_len mb_len (ej_ix ix_seq rd_ix (ej_vk 15) ej_int (fun _ _ => rfl)))) (fun v253 => (fj_seq (sj_tupVL 16 10 (ej_tup (dj_cons (ej_bin op_mulD rd_mul (ej_tup (dj_cons ej_int dj_nil)) (ej_vk 13)) dj_nil)) (lj_lst dj_nil) (pg_tup rfl (pgs_cons (pg_name (i := 16) sc.nd rfl (by first | exact Or.inl rfl | exact Or.inr rfl)) (pgs_cons (pg_name (i := 10) sc.nd rfl (by first | exact Or.inl rfl | exact Or.inr rfl)) pgs_nil)))) (fun v254 => (fj_of_for (for1 12 (P := fun (a255 : List D) => [.any, .val (refL 0), .any, .any, .any, .any, .any, .val v251, .any, .val v248, .own a255, .val v249.2, .any, .val v253, .val v249.1, .val v252, .val v254.1, .any, .any]) (a0 := v254.2) PassesOwn.never (ij_seq (ej_l (lj_lst (dj_cons (ej_bin op_mulD rd_mul (ej_tup (dj_cons ej_int dj_nil)) (ej_vk 13)) (dj_cons (ej_bin op_mulD rd_mul (ej_tup (dj_cons ej_int dj_nil)) (ej_vk 13)) dj_nil))))) (pg_name (i := 12) sc.nd rfl (by first | exact Or.inl rfl | exact Or.inr rfl)) (fun x256 a255 => (bj_seq (sj_append 10 (ej_lamcall (q := qL) (g := [.any, .val (refL 0), .any, .any, .any, .any, .any, .val v251, .any, .val v248, .own a255, .val v249.2, .val x256, .val v253, .val v249.1, .val v252, .val v254.1, .any, .any]) [.any, .any, .any, .any, .any, .any, .any, .any, .any, .any, .any, .any, .val x256, .any, .any, .val v252, .val v254.1, .any, .any] (j := 38) dl__law_told (by decide) (hr.mono (by decide)) gu TB hcode (by kernel_rfl) (LamX.lamS_by (by kernel_rfl)) rfl (fun _ _ _ _ _ => rfl) ⟨.inl rfl, .inl rfl, .inl rfl, .inl rfl, .inl rfl, .inl rfl, .inl rfl, .inl rfl, .inl rfl, .inl rfl, .inl rfl, .inl rfl, .inr rfl, .inl rfl, .inl rfl, .inr rfl, .inr rfl, .inl rfl, .inl rfl, trivial⟩ rfl (fun _ _ A outer s H E hr gu => (ej_callXD dx_next_drawer (hr.mono (by decide)) gu takesL (sub_self _) (aj_cons (ej_up (m' := Z) (ej_vk 15)) (aj_cons (ej_up (m' := Z) (ej_vk 16)) (aj_cons (ej_up (m' := Z) (ej_vk 12)) aj_nil))))))) (fun v257 => (bj_nil (a := (a255 ++ [v257])) ⟨.inl rfl, .inr rfl, .inl rfl, .inl rfl, .inl rfl, .inl rfl, .inl rfl, .inr rfl, .inl rfl, .inr rfl, .inr rfl, .inr rfl, .inl rfl, .inr rfl, .inr rfl, .inr rfl, .inr rfl, .inl rfl, .inl rfl, trivial⟩)))) ⟨.inl rfl, .inr rfl, .inl rfl, .inl rfl, .inl rfl, .inl rfl, .inl rfl, .inr rfl, .inl rfl, .inr rfl, .inr rfl, .inr rfl, .inl rfl, .inr rfl, .inr rfl, .inr rfl, .inr rfl, .inl rfl, .inl rfl, trivial⟩) (fun a258 => (fj_seq (sj_append 10 (ej_lamcall (q := qL) (g := [.any, .val (refL 0), .any, .any, .any, .any, .any, .val v251, .any, .val v248, .own a258, .val v249.2, .any, .val v253, .val v249.1, .val v252, .val v254.1, .any, .any]) [.any, .any, .any, .any, .any, .any, .any, .any, .any, .any, .any, .any, .any, .val v253, .any, .val v252, .any, .any, .any] (j := 38) dl__law_told (by decide) (hr.mono (by decide)) gu TB hcode (by kernel_rfl) (LamX.lamS_by (by kernel_rfl)) rfl (fun _ _ _ _ _ => rfl) ⟨.inl rfl, .inl rfl, .inl rfl, .inl rfl, .inl rfl, .inl rfl, .inl rfl, .inl rfl, .inl rfl, .inl rfl, .inl rfl, .inl rfl, .inl rfl, .inr rfl, .inl rfl, .inr rfl, .inl rfl, .inl rfl, .inl rfl, trivial⟩ rfl (fun _ _ A outer s H E hr gu => (ej_callXD dx_next_drawer (hr.mono (by decide)) gu takesL (sub_self _) (aj_cons (ej_up (m' := Z) (ej_vk 15)) (aj_cons (ej_up (m' := Z) (ej_tup (dj_cons (ej_bin op_mulD rd_mul (ej_tup (dj_cons ej_int dj_nil)) (ej_vk 13)) dj_nil))) (aj_cons (ej_up (m' := Z) (ej_bin op_mulD rd_mul (ej_tup (dj_cons ej_int dj_nil)) (ej_vk 13))) aj_nil))))))) (fun v259 => (fj_fr 10 (fj_ret (ej_cmp (by exact op_eqA hy (units_of hr)) rd_eq (ej_vk 10) (ej_bin op_mulD rd_mul (ej_l (lj_lst (dj_cons (ej_l (lj_lst (dj_cons ej_str (dj_cons ej_int dj_nil)))) dj_nil))) ej_int)))))))))))))))))))))))))) (hM tP)
end
theorem all_mk {l : PySem.W.OpenLaw} {w : World} {K : PySem.W.Frag} {h : Heap} {mg : Str → Option Value} {fa cLaw tP : Addr} (X : K.In h) (G : h.Ns mainGlobals mg) (hfa : mg "law" = some (.ref fa)) (hM : ∀ (tP : Addr) (cs rs : List Int), cs.length = rs.length → 0 < cs.length → cs.length ≤ 64 → (∀ r ∈ rs, 0 ≤ r) → m_law tP ⟨0, deck3 0 cs rs ++ [.tab tP qL]⟩ (fun d _ => d = .bool true))
    {f0 : Addr} {od0 an0 : Option Addr} {sl0 : Array (Option Value)} {oc0 kV0 dc0 pm0 cd0 ct0 : Value} (a0 : PySem.W.nsIn K mainGlobals "totals_of" = some (some (.ref f0))) (l0 : K.lookup f0 = some ⟨oc0, od0, .func (PySem.W.fnOf "totals_of" "totals_of" (defArgs s_totals_of) (defBody s_totals_of) (defScope s_totals_of) .none kV0 dc0 pm0 an0 cd0 ct0), sl0⟩) (c0 : PySem.W.codeIn K cd0 "totals_of" = true) (k0 : PySem.W.keepIn K (.ref f0) = true)
    {f1 : Addr} {od1 an1 : Option Addr} {sl1 : Array (Option Value)} {oc1 kV1 dc1 pm1 cd1 ct1 : Value} (a1 : PySem.W.nsIn K mainGlobals "sizes_of" = some (some (.ref f1))) (l1 : K.lookup f1 = some ⟨oc1, od1, .func (PySem.W.fnOf "sizes_of" "sizes_of" (defArgs s_sizes_of) (defBody s_sizes_of) (defScope s_sizes_of) .none kV1 dc1 pm1 an1 cd1 ct1), sl1⟩) (c1 : PySem.W.codeIn K cd1 "sizes_of" = true) (k1 : PySem.W.keepIn K (.ref f1) = true)
    {f2 : Addr} {od2 an2 : Option Addr} {sl2 : Array (Option Value)} {oc2 kV2 dc2 pm2 cd2 ct2 : Value} (a2 : PySem.W.nsIn K mainGlobals "contains" = some (some (.ref f2))) (l2 : K.lookup f2 = some ⟨oc2, od2, .func (PySem.W.fnOf "contains" "contains" (defArgs s_contains) (defBody s_contains) (defScope s_contains) .none kV2 dc2 pm2 an2 cd2 ct2), sl2⟩) (c2 : PySem.W.codeIn K cd2 "contains" = true) (k2 : PySem.W.keepIn K (.ref f2) = true)
    {f3 : Addr} {od3 an3 : Option Addr} {sl3 : Array (Option Value)} {oc3 kV3 dc3 pm3 cd3 ct3 : Value} (a3 : PySem.W.nsIn K mainGlobals "added" = some (some (.ref f3))) (l3 : K.lookup f3 = some ⟨oc3, od3, .func (PySem.W.fnOf "added" "added" (defArgs s_added) (defBody s_added) (defScope s_added) .none kV3 dc3 pm3 an3 cd3 ct3), sl3⟩) (c3 : PySem.W.codeIn K cd3 "added" = true) (k3 : PySem.W.keepIn K (.ref f3) = true)
    {f4 : Addr} {od4 an4 : Option Addr} {sl4 : Array (Option Value)} {oc4 kV4 dc4 pm4 cd4 ct4 : Value} (a4 : PySem.W.nsIn K mainGlobals "without_thing" = some (some (.ref f4))) (l4 : K.lookup f4 = some ⟨oc4, od4, .func (PySem.W.fnOf "without_thing" "without_thing" (defArgs s_without_thing) (defBody s_without_thing) (defScope s_without_thing) .none kV4 dc4 pm4 an4 cd4 ct4), sl4⟩) (c4 : PySem.W.codeIn K cd4 "without_thing" = true) (k4 : PySem.W.keepIn K (.ref f4) = true)
    {f6 : Addr} {od6 an6 : Option Addr} {sl6 : Array (Option Value)} {oc6 kV6 dc6 pm6 cd6 ct6 : Value} (a6 : PySem.W.nsIn K mainGlobals "_law_draws" = some (some (.ref f6))) (l6 : K.lookup f6 = some ⟨oc6, od6, .func (PySem.W.fnOf "_law_draws" "_law_draws" (defArgs s__law_draws) (defBody s__law_draws) (defScope s__law_draws) .none kV6 dc6 pm6 an6 cd6 ct6), sl6⟩) (c6 : PySem.W.codeIn K cd6 "_law_draws" = true) (k6 : PySem.W.keepIn K (.ref f6) = true)
    {f7 : Addr} {od7 an7 : Option Addr} {sl7 : Array (Option Value)} {oc7 kV7 dc7 pm7 cd7 ct7 : Value} (a7 : PySem.W.nsIn K mainGlobals "_law_next" = some (some (.ref f7))) (l7 : K.lookup f7 = some ⟨oc7, od7, .func (PySem.W.fnOf "_law_next" "_law_next" (defArgs s__law_next) (defBody s__law_next) (defScope s__law_next) .none kV7 dc7 pm7 an7 cd7 ct7), sl7⟩) (c7 : PySem.W.codeIn K cd7 "_law_next" = true) (k7 : PySem.W.keepIn K (.ref f7) = true)
    {f8 : Addr} {od8 an8 : Option Addr} {sl8 : Array (Option Value)} {oc8 kV8 dc8 pm8 cd8 ct8 : Value} (a8 : PySem.W.nsIn K mainGlobals "_law_totals" = some (some (.ref f8))) (l8 : K.lookup f8 = some ⟨oc8, od8, .func (PySem.W.fnOf "_law_totals" "_law_totals" (defArgs s__law_totals) (defBody s__law_totals) (defScope s__law_totals) .none kV8 dc8 pm8 an8 cd8 ct8), sl8⟩) (c8 : PySem.W.codeIn K cd8 "_law_totals" = true) (k8 : PySem.W.keepIn K (.ref f8) = true)
    {f9 : Addr} {od9 an9 : Option Addr} {sl9 : Array (Option Value)} {oc9 kV9 dc9 pm9 cd9 ct9 : Value} (a9 : PySem.W.nsIn K mainGlobals "_law_has" = some (some (.ref f9))) (l9 : K.lookup f9 = some ⟨oc9, od9, .func (PySem.W.fnOf "_law_has" "_law_has" (defArgs s__law_has) (defBody s__law_has) (defScope s__law_has) .none kV9 dc9 pm9 an9 cd9 ct9), sl9⟩) (c9 : PySem.W.codeIn K cd9 "_law_has" = true) (k9 : PySem.W.keepIn K (.ref f9) = true)
    {f10 : Addr} {od10 an10 : Option Addr} {sl10 : Array (Option Value)} {oc10 kV10 dc10 pm10 cd10 ct10 : Value} (a10 : PySem.W.nsIn K mainGlobals "_law_without" = some (some (.ref f10))) (l10 : K.lookup f10 = some ⟨oc10, od10, .func (PySem.W.fnOf "_law_without" "_law_without" (defArgs s__law_without) (defBody s__law_without) (defScope s__law_without) .none kV10 dc10 pm10 an10 cd10 ct10), sl10⟩) (c10 : PySem.W.codeIn K cd10 "_law_without" = true) (k10 : PySem.W.keepIn K (.ref f10) = true)
    {f11 : Addr} {od11 an11 : Option Addr} {sl11 : Array (Option Value)} {oc11 kV11 dc11 pm11 cd11 ct11 : Value} (a11 : PySem.W.nsIn K mainGlobals "_law_with" = some (some (.ref f11))) (l11 : K.lookup f11 = some ⟨oc11, od11, .func (PySem.W.fnOf "_law_with" "_law_with" (defArgs s__law_with) (defBody s__law_with) (defScope s__law_with) .none kV11 dc11 pm11 an11 cd11 ct11), sl11⟩) (c11 : PySem.W.codeIn K cd11 "_law_with" = true) (k11 : PySem.W.keepIn K (.ref f11) = true)
    {f12 : Addr} {od12 an12 : Option Addr} {sl12 : Array (Option Value)} {oc12 kV12 dc12 pm12 cd12 ct12 : Value} (a12 : PySem.W.nsIn K mainGlobals "fulfilled_by" = some (some (.ref f12))) (l12 : K.lookup f12 = some ⟨oc12, od12, .func (PySem.W.fnOf "fulfilled_by" "fulfilled_by" (defArgs s_fulfilled_by) (defBody s_fulfilled_by) (defScope s_fulfilled_by) .none kV12 dc12 pm12 an12 cd12 ct12), sl12⟩) (c12 : PySem.W.codeIn K cd12 "fulfilled_by" = true) (k12 : PySem.W.keepIn K (.ref f12) = true)
    {f13 : Addr} {od13 an13 : Option Addr} {sl13 : Array (Option Value)} {oc13 kV13 dc13 pm13 cd13 ct13 : Value} (a13 : PySem.W.nsIn K mainGlobals "_law_stock" = some (some (.ref f13))) (l13 : K.lookup f13 = some ⟨oc13, od13, .func (PySem.W.fnOf "_law_stock" "_law_stock" (defArgs s__law_stock) (defBody s__law_stock) (defScope s__law_stock) .none kV13 dc13 pm13 an13 cd13 ct13), sl13⟩) (c13 : PySem.W.codeIn K cd13 "_law_stock" = true) (k13 : PySem.W.keepIn K (.ref f13) = true)
    {f14 : Addr} {od14 an14 : Option Addr} {sl14 : Array (Option Value)} {oc14 kV14 dc14 pm14 cd14 ct14 : Value} (a14 : PySem.W.nsIn K mainGlobals "_law_wished" = some (some (.ref f14))) (l14 : K.lookup f14 = some ⟨oc14, od14, .func (PySem.W.fnOf "_law_wished" "_law_wished" (defArgs s__law_wished) (defBody s__law_wished) (defScope s__law_wished) .none kV14 dc14 pm14 an14 cd14 ct14), sl14⟩) (c14 : PySem.W.codeIn K cd14 "_law_wished" = true) (k14 : PySem.W.keepIn K (.ref f14) = true)
    {f16 : Addr} {od16 an16 : Option Addr} {sl16 : Array (Option Value)} {oc16 kV16 dc16 pm16 cd16 ct16 : Value} (a16 : PySem.W.nsIn K mainGlobals "need_few" = some (some (.ref f16))) (l16 : K.lookup f16 = some ⟨oc16, od16, .func (PySem.W.fnOf "need_few" "need_few" (defArgs s_need_few) (defBody s_need_few) (defScope s_need_few) .none kV16 dc16 pm16 an16 cd16 ct16), sl16⟩) (c16 : PySem.W.codeIn K cd16 "need_few" = true) (k16 : PySem.W.keepIn K (.ref f16) = true)
    {f19 : Addr} {od19 an19 : Option Addr} {sl19 : Array (Option Value)} {oc19 kV19 dc19 pm19 cd19 ct19 : Value} (a19 : PySem.W.nsIn K mainGlobals "_law_worst" = some (some (.ref f19))) (l19 : K.lookup f19 = some ⟨oc19, od19, .func (PySem.W.fnOf "_law_worst" "_law_worst" (defArgs s__law_worst) (defBody s__law_worst) (defScope s__law_worst) .none kV19 dc19 pm19 an19 cd19 ct19), sl19⟩) (c19 : PySem.W.codeIn K cd19 "_law_worst" = true) (k19 : PySem.W.keepIn K (.ref f19) = true)
    {f20 : Addr} {od20 an20 : Option Addr} {sl20 : Array (Option Value)} {oc20 kV20 dc20 pm20 cd20 ct20 : Value} (a20 : PySem.W.nsIn K mainGlobals "_law_further" = some (some (.ref f20))) (l20 : K.lookup f20 = some ⟨oc20, od20, .func (PySem.W.fnOf "_law_further" "_law_further" (defArgs s__law_further) (defBody s__law_further) (defScope s__law_further) .none kV20 dc20 pm20 an20 cd20 ct20), sl20⟩) (c20 : PySem.W.codeIn K cd20 "_law_further" = true) (k20 : PySem.W.keepIn K (.ref f20) = true)
    {f21 : Addr} {od21 an21 : Option Addr} {sl21 : Array (Option Value)} {oc21 kV21 dc21 pm21 cd21 ct21 : Value} (a21 : PySem.W.nsIn K mainGlobals "next_drawer" = some (some (.ref f21))) (l21 : K.lookup f21 = some ⟨oc21, od21, .func (PySem.W.fnOf "next_drawer" "next_drawer" (defArgs s_next_drawer) (defBody s_next_drawer) (defScope s_next_drawer) .none kV21 dc21 pm21 an21 cd21 ct21), sl21⟩) (c21 : PySem.W.codeIn K cd21 "next_drawer" = true) (k21 : PySem.W.keepIn K (.ref f21) = true)
    {f22 : Addr} {od22 an22 : Option Addr} {sl22 : Array (Option Value)} {oc22 kV22 dc22 pm22 cd22 ct22 : Value} (a22 : PySem.W.nsIn K mainGlobals "_law_due" = some (some (.ref f22))) (l22 : K.lookup f22 = some ⟨oc22, od22, .func (PySem.W.fnOf "_law_due" "_law_due" (defArgs s__law_due) (defBody s__law_due) (defScope s__law_due) .none kV22 dc22 pm22 an22 cd22 ct22), sl22⟩) (c22 : PySem.W.codeIn K cd22 "_law_due" = true) (k22 : PySem.W.keepIn K (.ref f22) = true)
    {f23 : Addr} {od23 an23 : Option Addr} {sl23 : Array (Option Value)} {oc23 kV23 dc23 pm23 cd23 ct23 : Value} (a23 : PySem.W.nsIn K mainGlobals "_law_told" = some (some (.ref f23))) (l23 : K.lookup f23 = some ⟨oc23, od23, .func (PySem.W.fnOf "_law_told" "_law_told" (defArgs s__law_told) (defBody s__law_told) (defScope s__law_told) .none kV23 dc23 pm23 an23 cd23 ct23), sl23⟩) (c23 : PySem.W.codeIn K cd23 "_law_told" = true) (k23 : PySem.W.keepIn K (.ref f23) = true)
    {f24 : Addr} {od24 an24 : Option Addr} {sl24 : Array (Option Value)} {oc24 kV24 dc24 pm24 ct24 : Value} (a24 : PySem.W.nsIn K mainGlobals "law" = some (some (.ref f24))) (l24 : K.lookup f24 = some ⟨oc24, od24, .func (PySem.W.fnOf "law" "law" (defArgs s_law) (defBody s_law) (defScope s_law) .none kV24 dc24 pm24 an24 (.ref cLaw) ct24), sl24⟩) (c24 : PySem.W.codeIn K (.ref cLaw) "law" = true) (k24 : PySem.W.keepIn K (.ref f24) = true)
    (z0 : PySem.W.nsIn K mainGlobals "ValueError" = some none)
    (z1 : PySem.W.nsIn K mainGlobals "all" = some none)
    (z2 : PySem.W.nsIn K mainGlobals "enumerate" = some none)
    (z3 : PySem.W.nsIn K mainGlobals "int" = some none)
    (z4 : PySem.W.nsIn K mainGlobals "isinstance" = some none)
    (z5 : PySem.W.nsIn K mainGlobals "len" = some none)
    (z6 : PySem.W.nsIn K mainGlobals "list" = some none)
    (z7 : PySem.W.nsIn K mainGlobals "max" = some none)
    (z8 : PySem.W.nsIn K mainGlobals "min" = some none)
    (z9 : PySem.W.nsIn K mainGlobals "range" = some none)
    (z10 : PySem.W.nsIn K mainGlobals "repr" = some none)
    (z11 : PySem.W.nsIn K mainGlobals "sum" = some none)
    (z12 : PySem.W.nsIn K mainGlobals "tuple" = some none)
    (z13 : PySem.W.nsIn K mainGlobals "zip" = some none)
    {tc0 : Tok} (y0 : PySem.W.nsIn K mainGlobals "SMALL_THINGS" = some (some (.int 14 tc0)))
    {c_BadPlan : Addr} (aC_BadPlan : PySem.W.nsIn K mainGlobals "BadPlan" = some (some (.ref c_BadPlan)))
    {c_BadWish : Addr} (aC_BadWish : PySem.W.nsIn K mainGlobals "BadWish" = some (some (.ref c_BadWish)))
    {c_DrawerError : Addr} (aC_DrawerError : PySem.W.nsIn K mainGlobals "DrawerError" = some (some (.ref c_DrawerError)))
    {c_Search : Addr} (aC_Search : PySem.W.nsIn K mainGlobals "Search" = some (some (.ref c_Search)))
    {c_TooFew : Addr} (aC_TooFew : PySem.W.nsIn K mainGlobals "TooFew" = some (some (.ref c_TooFew)))
    {c_TooFull : Addr} (aC_TooFull : PySem.W.nsIn K mainGlobals "TooFull" = some (some (.ref c_TooFull)))
    {c_TooLarge : Addr} (aC_TooLarge : PySem.W.nsIn K mainGlobals "TooLarge" = some (some (.ref c_TooLarge)))
    {c_TooMuch : Addr} (aC_TooMuch : PySem.W.nsIn K mainGlobals "TooMuch" = some (some (.ref c_TooMuch)))
    {fi_TooLarge : Addr} {odi_TooLarge ani_TooLarge : Option Addr} {sli_TooLarge : Array (Option Value)} {oci_TooLarge kVi_TooLarge dci_TooLarge pmi_TooLarge cdi_TooLarge cti_TooLarge : Value} (iC_TooLarge : PySem.W.findIn K (.ref c_TooLarge) "__init__" = some (some (.ref fi_TooLarge))) (iT_TooLarge : PySem.W.typeIn K (.ref fi_TooLarge) = some (.type "function")) (iL_TooLarge : K.lookup fi_TooLarge = some ⟨oci_TooLarge, odi_TooLarge, .func (PySem.W.fnOf "__init__" "TooLarge.__init__" (defArgs i_TooLarge) (defBody i_TooLarge) (defScope i_TooLarge) .none kVi_TooLarge dci_TooLarge pmi_TooLarge ani_TooLarge cdi_TooLarge cti_TooLarge), sli_TooLarge⟩) (iD_TooLarge : PySem.W.codeIn K cdi_TooLarge "TooLarge.__init__" = true) (iK_TooLarge : PySem.W.keepIn K (.ref fi_TooLarge) = true) (iO_TooLarge : oexC0 K c_TooLarge = true) (iA_TooLarge : PySem.W.findIn K (.ref c_TooLarge) "__setattr__" = some (some (.builtin "object.__setattr__"))) (iB_TooLarge : PySem.W.subIn K (.ref c_TooLarge) (.type "BaseException") = some true) (iY_TooLarge : PySem.W.typeIn K (.ref c_TooLarge) = some (.type "type")) (iE_TooLarge : PySem.W.keepIn K (.ref c_TooLarge) = true) (iN_TooLarge : PySem.W.findIn K (.ref c_TooLarge) "bound" = some none)
    (e0_TooLarge : (PySem.W.clsIn K c_TooLarge).isSome = true)
    (eg_TooLarge : PySem.W.findIn K (.ref c_TooLarge) "__getattribute__" = some (some (.builtin "BaseException.__getattribute__")))
    (et_TooLarge : PySem.W.findIn K (.ref c_TooLarge) "__getattr__" = some none)
    (es_TooLarge : PySem.W.subIn K (.ref c_TooLarge) (.type "BaseException") = some true)
    (ed_TooLarge : PySem.W.hasDictIn K c_TooLarge = true)
    (ea_TooLarge : PySem.W.findIn K (.ref c_TooLarge) "__class__" = some (some (.builtin "object.__class__")))
    (en_TooLarge : PySem.W.specialIn K (.builtin "object.__class__") "__get__" = some (some (.builtin "getset_descriptor.__get__")))
    (ek_TooLarge : PySem.W.takesIn K (.builtin "object.__class__") = some true)
    (em_TooLarge : PySem.W.mroIn K c_TooLarge (.type "object") = some true)
    (kit_TooLarge_BadPlan_BadWish_TooFew_TooFull_TooMuch : PySem.W.kitAny K (.ref c_TooLarge) [(.ref c_BadPlan), (.ref c_BadWish), (.ref c_TooFew), (.ref c_TooFull), (.ref c_TooMuch)] = some false)
    (kit_TooLarge_TooLarge : PySem.W.kitOne K (.ref c_TooLarge) (.ref c_TooLarge) = some true)
    (kit_TooLarge_ValueError : PySem.W.kitOne K (.ref c_TooLarge) (.type "ValueError") = some true)
    (no_TooLarge_bound : PySem.W.findIn K (.ref c_TooLarge) "bound" = some none)
    (xm_TooLarge_DrawerError : PySem.W.exmOne K (.ref c_TooLarge) (.ref c_DrawerError) = some true)
    (pg_Search : PySem.W.plainGet K c_Search Str.empty = true)
    (hd_Search : PySem.W.hasDictIn K c_Search = true)
    (po_Search : PySem.W.plainOver K c_Search = true)
    (sa_Search : PySem.W.findIn K (.ref c_Search) "__setattr__" = some (some (.builtin "object.__setattr__")))
    (oa_Search : PySem.W.findIn K (.ref c_Search) "__class__" = some (some (.builtin "object.__class__")))
    (on_Search : PySem.W.specialIn K (.builtin "object.__class__") "__get__" = some (some (.builtin "getset_descriptor.__get__")))
    (ot_Search : PySem.W.takesIn K (.builtin "object.__class__") = some true)
    (om_Search : PySem.W.mroIn K c_Search (.type "object") = some true)
    (ok_Search : (["NoneType", "bool", "int", "str", "list", "tuple", "dict"].all fun T => PySem.W.kitOne K (.ref c_Search) (.type T) == some false) = true)
    (mk_Search : PySem.W.makesIn K c_Search = true)
    (kc_Search : PySem.W.keepIn K (.ref c_Search) = true)
    {f5 : Addr} {od5 an5 : Option Addr} {sl5 : Array (Option Value)} {oc5 kV5 dc5 pm5 cd5 ct5 : Value} (m5 : PySem.W.findIn K (.ref c_Search) "__init__" = some (some (.ref f5))) (t5 : PySem.W.isFn K (.ref f5) = true) (l5 : K.lookup f5 = some ⟨oc5, od5, .func (PySem.W.fnOf "__init__" "Search.__init__" (defArgs s_Search____init__) (defBody s_Search____init__) (defScope s_Search____init__) .none kV5 dc5 pm5 an5 cd5 ct5), sl5⟩) (c5 : PySem.W.codeIn K cd5 "Search.__init__" = true) (k5 : PySem.W.keepIn K (.ref f5) = true)
    {f15 : Addr} {od15 an15 : Option Addr} {sl15 : Array (Option Value)} {oc15 kV15 dc15 pm15 cd15 ct15 : Value} (m15 : PySem.W.findIn K (.ref c_Search) "is_done" = some (some (.ref f15))) (t15 : PySem.W.isFn K (.ref f15) = true) (l15 : K.lookup f15 = some ⟨oc15, od15, .func (PySem.W.fnOf "is_done" "Search.is_done" (defArgs s_Search__is_done) (defBody s_Search__is_done) (defScope s_Search__is_done) .none kV15 dc15 pm15 an15 cd15 ct15), sl15⟩) (c15 : PySem.W.codeIn K cd15 "Search.is_done" = true) (k15 : PySem.W.keepIn K (.ref f15) = true)
    {f17 : Addr} {od17 an17 : Option Addr} {sl17 : Array (Option Value)} {oc17 kV17 dc17 pm17 cd17 ct17 : Value} (m17 : PySem.W.findIn K (.ref c_Search) "worst" = some (some (.ref f17))) (t17 : PySem.W.isFn K (.ref f17) = true) (l17 : K.lookup f17 = some ⟨oc17, od17, .func (PySem.W.fnOf "worst" "Search.worst" (defArgs s_Search__worst) (defBody s_Search__worst) (defScope s_Search__worst) .none kV17 dc17 pm17 an17 cd17 ct17), sl17⟩) (c17 : PySem.W.codeIn K cd17 "Search.worst" = true) (k17 : PySem.W.keepIn K (.ref f17) = true)
    {f18 : Addr} {od18 an18 : Option Addr} {sl18 : Array (Option Value)} {oc18 kV18 dc18 pm18 cd18 ct18 : Value} (m18 : PySem.W.findIn K (.ref c_Search) "further" = some (some (.ref f18))) (t18 : PySem.W.isFn K (.ref f18) = true) (l18 : K.lookup f18 = some ⟨oc18, od18, .func (PySem.W.fnOf "further" "Search.further" (defArgs s_Search__further) (defBody s_Search__further) (defScope s_Search__further) .none kV18 dc18 pm18 an18 cd18 ct18), sl18⟩) (c18 : PySem.W.codeIn K cd18 "Search.further" = true) (k18 : PySem.W.keepIn K (.ref f18) = true)
    (no_Search_known : PySem.W.findIn K (.ref c_Search) "known" = some none)
    (no_Search_needs : PySem.W.findIn K (.ref c_Search) "needs" = some none)
    (no_Search_totals : PySem.W.findIn K (.ref c_Search) "totals" = some none)
    : ∃ fd : FuncData, (∀ (s : Shared) (v : Value), BindsTo s fd ⟨[v], []⟩ [("_law_script", v)]) ∧ ∀ base : Heap, K.In base → base.Ns mainGlobals mg → SysAt base → LamX.TabB base mg cLaw tP → FnG l.prog w K mg base 41 fa fd ["_law_script"] (spLawT K tP) := by
  have e := hfa.symm.trans (PySem.W.mg_of X G a24)
  cases e
  have F0 := fun_mk (st := s_totals_of) l0 c0 k0
  have b0 := F0.binds (ps := ["stock"]) fun _ _ _ _ _ _ us hl => match us, hl with | [_], _ => rfl
  have e0 := PySem.W.mg_of X G a0
  have F1 := fun_mk (st := s_sizes_of) l1 c1 k1
  have b1 := F1.binds (ps := ["stock"]) fun _ _ _ _ _ _ us hl => match us, hl with | [_], _ => rfl
  have e1 := PySem.W.mg_of X G a1
  have F2 := fun_mk (st := s_contains) l2 c2 k2
  have b2 := F2.binds (ps := ["counts", "collection"]) fun _ _ _ _ _ _ us hl => match us, hl with | [_, _], _ => rfl
  have e2 := PySem.W.mg_of X G a2
  have F3 := fun_mk (st := s_added) l3 c3 k3
  have b3 := F3.binds (ps := ["counts", "others"]) fun _ _ _ _ _ _ us hl => match us, hl with | [_, _], _ => rfl
  have e3 := PySem.W.mg_of X G a3
  have F4 := fun_mk (st := s_without_thing) l4 c4 k4
  have b4 := F4.binds (ps := ["stock", "drawer", "kind"]) fun _ _ _ _ _ _ us hl => match us, hl with | [_, _, _], _ => rfl
  have e4 := PySem.W.mg_of X G a4
  have F5 := fun_mk (st := s_Search____init__) l5 c5 k5
  have b5 := F5.binds (ps := ["self", "collections", "totals"]) fun _ _ _ _ _ _ us hl => match us, hl with | [_, _, _], _ => rfl
  have F6 := fun_mk (st := s__law_draws) l6 c6 k6
  have b6 := F6.binds (ps := ["_law_script"]) fun _ _ _ _ _ _ us hl => match us, hl with | [_], _ => rfl
  have e6 := PySem.W.mg_of X G a6
  have F7 := fun_mk (st := s__law_next) l7 c7 k7
  have b7 := F7.binds (ps := ["_law_drawn", "_law_many"]) fun _ _ _ _ _ _ us hl => match us, hl with | [_, _], _ => rfl
  have e7 := PySem.W.mg_of X G a7
  have F8 := fun_mk (st := s__law_totals) l8 c8 k8
  have b8 := F8.binds (ps := ["_law_stock_here"]) fun _ _ _ _ _ _ us hl => match us, hl with | [_], _ => rfl
  have e8 := PySem.W.mg_of X G a8
  have F9 := fun_mk (st := s__law_has) l9 c9 k9
  have b9 := F9.binds (ps := ["_law_collections", "_law_counts"]) fun _ _ _ _ _ _ us hl => match us, hl with | [_, _], _ => rfl
  have e9 := PySem.W.mg_of X G a9
  have F10 := fun_mk (st := s__law_without) l10 c10 k10
  have b10 := F10.binds (ps := ["_law_stock_here", "_law_at", "_law_kind"]) fun _ _ _ _ _ _ us hl => match us, hl with | [_, _, _], _ => rfl
  have e10 := PySem.W.mg_of X G a10
  have F11 := fun_mk (st := s__law_with) l11 c11 k11
  have b11 := F11.binds (ps := ["_law_counts", "_law_kind"]) fun _ _ _ _ _ _ us hl => match us, hl with | [_, _], _ => rfl
  have e11 := PySem.W.mg_of X G a11
  have F12 := fun_mk (st := s_fulfilled_by) l12 c12 k12
  have b12 := F12.binds (ps := ["collections", "counts"]) fun _ _ _ _ _ _ us hl => match us, hl with | [_, _], _ => rfl
  have e12 := PySem.W.mg_of X G a12
  have F13 := fun_mk (st := s__law_stock) l13 c13 k13
  have b13 := F13.binds (ps := ["_law_drawn", "_law_drawers", "_law_things"]) fun _ _ _ _ _ _ us hl => match us, hl with | [_, _, _], _ => rfl
  have e13 := PySem.W.mg_of X G a13
  have F14 := fun_mk (st := s__law_wished) l14 c14 k14
  have b14 := F14.binds (ps := ["_law_drawn", "_law_kinds", "_law_most"]) fun _ _ _ _ _ _ us hl => match us, hl with | [_, _, _], _ => rfl
  have e14 := PySem.W.mg_of X G a14
  have F15 := fun_mk (st := s_Search__is_done) l15 c15 k15
  have b15 := F15.binds (ps := ["self", "stock"]) fun _ _ _ _ _ _ us hl => match us, hl with | [_, _], _ => rfl
  have F16 := fun_mk (st := s_need_few) l16 c16 k16
  have b16 := F16.binds (ps := ["stock"]) fun _ _ _ _ _ _ us hl => match us, hl with | [_], _ => rfl
  have e16 := PySem.W.mg_of X G a16
  have F17 := fun_mk (st := s_Search__worst) l17 c17 k17
  have b17 := F17.binds (ps := ["self", "stock", "drawer"]) fun _ _ _ _ _ _ us hl => match us, hl with | [_, _, _], _ => rfl
  have F18 := fun_mk (st := s_Search__further) l18 c18 k18
  have b18 := F18.binds (ps := ["self", "stock"]) fun _ _ _ _ _ _ us hl => match us, hl with | [_, _], _ => rfl
  have F19 := fun_mk (st := s__law_worst) l19 c19 k19
  have b19 := F19.binds (ps := ["_law_known", "_law_stock_here", "_law_collections", "_law_counts", "_law_at"]) fun _ _ _ _ _ _ us hl => match us, hl with | [_, _, _, _, _], _ => rfl
  have e19 := PySem.W.mg_of X G a19
  have F20 := fun_mk (st := s__law_further) l20 c20 k20
  have b20 := F20.binds (ps := ["_law_known", "_law_stock_here", "_law_collections", "_law_counts"]) fun _ _ _ _ _ _ us hl => match us, hl with | [_, _, _, _], _ => rfl
  have e20 := PySem.W.mg_of X G a20
  have F21 := fun_mk (st := s_next_drawer) l21 c21 k21
  have b21 := F21.binds (ps := ["stock", "collections", "counts"]) fun _ _ _ _ _ _ us hl => match us, hl with | [_, _, _], _ => rfl
  have e21 := PySem.W.mg_of X G a21
  have F22 := fun_mk (st := s__law_due) l22 c22 k22
  have b22 := F22.binds (ps := ["_law_stock_here", "_law_collections", "_law_counts"]) fun _ _ _ _ _ _ us hl => match us, hl with | [_, _, _], _ => rfl
  have e22 := PySem.W.mg_of X G a22
  have F23 := fun_mk (st := s__law_told) l23 c23 k23
  have b23 := F23.binds (ps := ["_law_call"]) fun _ _ _ _ _ _ us hl => match us, hl with | [_], _ => rfl
  have e23 := PySem.W.mg_of X G a23
  have F24 := fun_mk (st := s_law) l24 c24 k24
  have mb_ValueError := PySem.W.mg_none_of X G z0
  have mb_all := PySem.W.mg_none_of X G z1
  have mb_enumerate := PySem.W.mg_none_of X G z2
  have mb_int := PySem.W.mg_none_of X G z3
  have mb_isinstance := PySem.W.mg_none_of X G z4
  have mb_len := PySem.W.mg_none_of X G z5
  have mb_list := PySem.W.mg_none_of X G z6
  have mb_max := PySem.W.mg_none_of X G z7
  have mb_min := PySem.W.mg_none_of X G z8
  have mb_range := PySem.W.mg_none_of X G z9
  have mb_repr := PySem.W.mg_none_of X G z10
  have mb_sum := PySem.W.mg_none_of X G z11
  have mb_tuple := PySem.W.mg_none_of X G z12
  have mb_zip := PySem.W.mg_none_of X G z13
  have mc_SMALL_THINGS := PySem.W.mg_of X G y0
  have mC_BadPlan := PySem.W.mg_of X G aC_BadPlan
  have mC_BadWish := PySem.W.mg_of X G aC_BadWish
  have mC_DrawerError := PySem.W.mg_of X G aC_DrawerError
  have mC_Search := PySem.W.mg_of X G aC_Search
  have mC_TooFew := PySem.W.mg_of X G aC_TooFew
  have mC_TooFull := PySem.W.mg_of X G aC_TooFull
  have mC_TooLarge := PySem.W.mg_of X G aC_TooLarge
  have mC_TooMuch := PySem.W.mg_of X G aC_TooMuch
  have cl_Search : ClsOk K "Search" c_Search := ⟨aC_Search, ⟨pg_Search, hd_Search, po_Search, sa_Search⟩, oa_Search, on_Search, ot_Search, om_Search, ok_Search⟩
  have hn_Search_known : HasNo K "Search" "known" := ⟨c_Search, cl_Search, no_Search_known⟩
  have hn_Search_needs : HasNo K "Search" "needs" := ⟨c_Search, cl_Search, no_Search_needs⟩
  have hn_Search_totals : HasNo K "Search" "totals" := ⟨c_Search, cl_Search, no_Search_totals⟩
  have er_TooLarge : ErK K c_TooLarge := ⟨e0_TooLarge, eg_TooLarge, et_TooLarge, es_TooLarge, ed_TooLarge, ea_TooLarge, en_TooLarge, ek_TooLarge, em_TooLarge⟩
  have oe_TooLarge := oex_mk iO_TooLarge iA_TooLarge iB_TooLarge iY_TooLarge iE_TooLarge
  have Fi_TooLarge := fun_mk (st := i_TooLarge) iL_TooLarge iD_TooLarge iK_TooLarge
  have bi_TooLarge := Fi_TooLarge.binds (ps := ["self", "bound"]) fun _ _ _ _ _ _ us hl => match us, hl with | [_, _], _ => rfl
  refine ⟨PySem.W.fnOf "law" "law" (defArgs s_law) (defBody s_law) (defScope s_law) .none kV24 dc24 pm24 an24 (.ref cLaw) ct24, fun s v => .of_eq rfl, fun base _ _ hy TB => ?_⟩
  have e1_TooLarge : Er1 l.prog w K mg base "TooLarge" "bound" c_TooLarge := er1_mk mC_TooLarge oe_TooLarge iC_TooLarge iT_TooLarge (init_ok Fi_TooLarge sci_TooLarge rfl oe_TooLarge iN_TooLarge fun cdv A outer s H E => pss_one (ps_ost (pv 0) (pv 1))) bi_TooLarge
  have d_totals_of : Def l.prog w K mg base 1 "totals_of" ["stock"] (spJ K M_totals_of) := ⟨f0, _, ok_totals_of F0 hy mb_sum mb_tuple mb_zip, e0, k0, b0⟩
  have d_sizes_of : Def l.prog w K mg base 1 "sizes_of" ["stock"] (spJ K M_sizes_of) := ⟨f1, _, ok_sizes_of F1 hy mb_sum mb_tuple, e1, k1, b1⟩
  have d_contains : Def l.prog w K mg base 1 "contains" ["counts", "collection"] (spJ K M_contains) := ⟨f2, _, ok_contains F2 hy mb_all mb_zip, e2, k2, b2⟩
  have d_added : Def l.prog w K mg base 1 "added" ["counts", "others"] (spJ K M_added) := ⟨f3, _, ok_added F3 hy mb_tuple mb_zip, e3, k3, b3⟩
  have d_without_thing : Def l.prog w K mg base 1 "without_thing" ["stock", "drawer", "kind"] (spJ K M_without_thing) := ⟨f4, _, ok_without_thing F4 hy, e4, k4, b4⟩
  have d_Search____init__ : MkG l.prog w K mg base 1 "Search" ["self", "collections", "totals"] (spJ K M_Search____init__) := ⟨c_Search, f5, _, cl_Search, mC_Search, ⟨mk_Search, m5, t5, kc_Search⟩, ok_Search____init__ F5 hy hn_Search_known hn_Search_needs hn_Search_totals, b5⟩
  have d__law_draws : Def l.prog w K mg base 1 "_law_draws" ["_law_script"] (spDeckZ K) := ⟨f6, _, ok__law_draws F6 mb_list mb_int mb_len, e6, k6, b6⟩
  have d__law_next : Def l.prog w K mg base 1 "_law_next" ["_law_drawn", "_law_many"] (spJ K M__law_next) := ⟨f7, _, ok__law_next F7 hy mb_len, e7, k7, b7⟩
  have d__law_totals : Def l.prog w K mg base 1 "_law_totals" ["_law_stock_here"] (spJ K M__law_totals) := ⟨f8, _, ok__law_totals F8 hy mb_len mb_range mb_sum mb_tuple, e8, k8, b8⟩
  have d__law_has : Def l.prog w K mg base 1 "_law_has" ["_law_collections", "_law_counts"] (spJ K M__law_has) := ⟨f9, _, ok__law_has F9 hy mb_len mb_range, e9, k9, b9⟩
  have d__law_without : Def l.prog w K mg base 1 "_law_without" ["_law_stock_here", "_law_at", "_law_kind"] (spJ K M__law_without) := ⟨f10, _, ok__law_without F10 hy, e10, k10, b10⟩
  have d__law_with : Def l.prog w K mg base 1 "_law_with" ["_law_counts", "_law_kind"] (spJ K M__law_with) := ⟨f11, _, ok__law_with F11 hy, e11, k11, b11⟩
  have d_fulfilled_by : Def l.prog w K mg base 2 "fulfilled_by" ["collections", "counts"] (spJ K M_fulfilled_by) := ⟨f12, _, ok_fulfilled_by F12 hy d_contains mb_enumerate, e12, k12, b12⟩
  have d__law_stock : Def l.prog w K mg base 2 "_law_stock" ["_law_drawn", "_law_drawers", "_law_things"] (spJ K M__law_stock) := ⟨f13, _, ok__law_stock F13 hy d__law_next mb_range mb_tuple, e13, k13, b13⟩
  have d__law_wished : Def l.prog w K mg base 2 "_law_wished" ["_law_drawn", "_law_kinds", "_law_most"] (spJ K M__law_wished) := ⟨f14, _, ok__law_wished F14 hy d__law_next mb_range mb_sum mb_tuple, e14, k14, b14⟩
  have d_Search__is_done : MthG l.prog w K mg base 3 "Search" "is_done" ["self", "stock"] (spJ K M_Search__is_done) := ⟨c_Search, f15, _, cl_Search, ⟨m15, t15, k15⟩, ok_Search__is_done F15 hy hn_Search_needs hn_Search_totals d_fulfilled_by d_totals_of mb_tuple mb_zip, b15⟩
  have dx_need_few : DefX l.prog w K mg base 3 "need_few" ["stock"] (spX K mg MX_need_few) := ⟨f16, _, okx_need_few F16 hy e1_TooLarge d_sizes_of mb_sum mc_SMALL_THINGS, e16, k16, b16⟩
  have d_Search__further : MthG l.prog w K mg base 36 "Search" "further" ["self", "stock"] (spJ K M_Search__further) := ⟨c_Search, f18, _, cl_Search, ⟨m18, t18, k18⟩, ok_Search__further cl_Search F18 ⟨m18, t18, k18⟩ b18 F17 ⟨m17, t17, k17⟩ b17 hy hn_Search_known d_Search__is_done d_sizes_of d_without_thing mb_enumerate mb_max mb_min 16, b18⟩
  have d_Search__worst : MthG l.prog w K mg base 37 "Search" "worst" ["self", "stock", "drawer"] (spJ K M_Search__worst) := ⟨c_Search, f17, _, cl_Search, ⟨m17, t17, k17⟩, ok_Search__worst (by decide) F17 hy d_Search__further d_without_thing mb_enumerate mb_max, b17⟩
  have d__law_further : Def l.prog w K mg base 36 "_law_further" ["_law_known", "_law_stock_here", "_law_collections", "_law_counts"] (spJ K M__law_further) := ⟨f20, _, ok__law_further F20 e20 k20 b20 F19 e19 k19 b19 hy d__law_has d__law_with d__law_without mb_len mb_max mb_min mb_range mb_sum 16, e20, k20, b20⟩
  have d__law_worst : Def l.prog w K mg base 37 "_law_worst" ["_law_known", "_law_stock_here", "_law_collections", "_law_counts", "_law_at"] (spJ K M__law_worst) := ⟨f19, _, ok__law_worst (by decide) F19 hy d__law_further d__law_with d__law_without mb_len mb_max mb_range, e19, k19, b19⟩
  have dx_next_drawer : DefX l.prog w K mg base 38 "next_drawer" ["stock", "collections", "counts"] (spX K mg MX_next_drawer) := ⟨f21, _, okx_next_drawer F21 hy d_Search____init__ d_Search__worst d_added d_fulfilled_by d_sizes_of d_totals_of dx_need_few mb_enumerate mb_min, e21, k21, b21⟩
  have d__law_due : Def l.prog w K mg base 38 "_law_due" ["_law_stock_here", "_law_collections", "_law_counts"] (spJ K M__law_due) := ⟨f22, _, ok__law_due F22 hy d__law_has d__law_totals d__law_worst mb_len mb_min mb_range mb_sum mb_tuple mb_zip, e22, k22, b22⟩
  have dl__law_told : FnL l.prog w K mg base 39 "_law_told" s__law_told ["_law_call", "e", "_law_is_other"] "_law_call" m__law_told := okl__law_told F23 e23 k23 b23 hy er_TooLarge kit_TooLarge_BadPlan_BadWish_TooFew_TooFull_TooMuch kit_TooLarge_TooLarge kit_TooLarge_ValueError mC_BadPlan mC_BadWish mC_DrawerError mC_TooFew mC_TooFull mC_TooLarge mC_TooMuch no_TooLarge_bound xm_TooLarge_DrawerError mb_ValueError mb_isinstance
  exact ok_law F24 rfl TB hy d__law_due d__law_next d__law_stock dl__law_told d__law_wished dx_next_drawer mb_len mb_max mb_range mb_repr mb_tuple d__law_draws hM
end DD
set_option maxHeartbeats 1000000
namespace DD
open PySem PySem.Spec PyProof.Rows L2
/-! mirrors that raise: equations -/
instance : MoL Xo := ⟨fun _ _ => rfl, fun x f g => by
  match x with
  | some (.ok a) => rfl
  | some (.error e) => rfl
  | none => rfl, fun _ => rfl⟩
/-- counts contain a row -/
def cont (c r : List Int) : Bool := (c.zip r).all fun p => decide (p.2 ≤ p.1)
def fulf (rows : List (List Int)) (c : List Int) : Option Nat := firstN (cont c) rows
theorem cont_iff {c r : List Int} (h : c.length = r.length) : cont c r = true ↔ ∀ j, j < r.length → r.getD j 0 ≤ c.getD j 0 := by
  unfold cont
  rw [List.all_eq_true]
  constructor
  · intro hp j hj
    have := hp (c.getD j 0, r.getD j 0) (List.mem_iff_getElem.mpr ⟨j, by simp; omega, by simp [List.getD, hj, h]⟩)
    simpa using this
  · intro hp p hp2
    obtain ⟨j, hj, rfl⟩ := List.mem_iff_getElem.mp hp2
    have hj1 : j < r.length := by simp at hj; omega
    have := hp j hj1
    simpa [List.getD, hj1, h] using this
theorem contains_eq {c r : List Int} (h : c.length ≤ r.length) (hs : c.length ≤ 1000000) : m_contains (tI c) (tI r) = some (.bool (cont c r)) := by
  unfold m_contains
  simp only [op2, op1, cmp2, chain3, tst, notB, andB, orB, andD, orD, iteM, consM, starM, smallM, tupM, tupSM, lstM, argV, argK, comp1, comp1i, comp2, comp2i, comp11, seqM, rng1, rng2, zipSM, zip2M, zip3M, enumM, repM, joinM, catM, par3LM, put2M, popM, parLV, putVM, unpS, trg1M, sortSetM, orV, lrg1M, par3M, rdM, rdLM, partM, slcM, isiM, rtM, forM1, forM2, forM3, parM, unp2, unp3, unp2A, unp3A, unp4A, ob_pure, ob_some, ob_lift, Option.pure_def, add_int, sub_int, lt_int, le_int, gt_int, ge_int, eq_int, ne_int, min_int, max_int, neg_int, bool_bool, not_bool, is_none, isn_none, nn_int, nn_none, nn_tup, len_tup, len_lst, tup_lst, tup_tup, it_lst, it_tup, int_bool, int_int, oint_int, addI_int, subI_int, flat_tI, flat_int, flat_none, Option.bind_some, Option.map_some, Int.zero_add, thenB, thenM, List.nil_append, List.length_map, ob_assoc, zip_map h]
  rw [small_ok (by simp; omega)]
  simp only [op2, op1, cmp2, chain3, tst, notB, andB, orB, andD, orD, iteM, consM, starM, smallM, tupM, tupSM, lstM, argV, argK, comp1, comp1i, comp2, comp2i, comp11, seqM, rng1, rng2, zipSM, zip2M, zip3M, enumM, repM, joinM, catM, par3LM, put2M, popM, parLV, putVM, unpS, trg1M, sortSetM, orV, lrg1M, par3M, rdM, rdLM, partM, slcM, isiM, rtM, forM1, forM2, forM3, parM, unp2, unp3, unp2A, unp3A, unp4A, ob_pure, ob_some, ob_lift, Option.pure_def, add_int, sub_int, lt_int, le_int, gt_int, ge_int, eq_int, ne_int, min_int, max_int, neg_int, bool_bool, not_bool, is_none, isn_none, nn_int, nn_none, nn_tup, len_tup, len_lst, tup_lst, tup_tup, it_lst, it_tup, int_bool, int_int, oint_int, addI_int, subI_int, flat_tI, flat_int, flat_none, Option.bind_some, Option.map_some, Int.zero_add, thenB, thenM, List.nil_append, List.length_map, ob_assoc]
  refine bindE (lcA_map2 (m := Option) (Ga := fun p : Int × Int => .int p.1) (Gb := fun p => .int p.2) (G := fun p => .bool (decide (p.2 ≤ p.1))) (fun _ => rfl) (c.zip r) [] fun p hp => rfl) ?_
  simp only [List.nil_append]
  exact all_map (p := fun p : Int × Int => decide (p.2 ≤ p.1)) (c.zip r)
theorem fulf_eq {rows : List (List Int)} {c : List Int} (h : ∀ r ∈ rows, c.length ≤ r.length) (hs : c.length ≤ 1000000) : m_fulfilled_by (tT rows) (tI c) = some (oN (fulf rows c)) := by
  unfold m_fulfilled_by
  simp only [op2, op1, cmp2, chain3, tst, notB, andB, orB, andD, orD, iteM, consM, starM, smallM, tupM, tupSM, lstM, argV, argK, comp1, comp1i, comp2, comp2i, comp11, seqM, rng1, rng2, zipSM, zip2M, zip3M, enumM, repM, joinM, catM, par3LM, put2M, popM, parLV, putVM, unpS, trg1M, sortSetM, orV, lrg1M, par3M, rdM, rdLM, partM, slcM, isiM, rtM, forM1, forM2, forM3, parM, unp2, unp3, unp2A, unp3A, unp4A, ob_pure, ob_some, ob_lift, Option.pure_def, add_int, sub_int, lt_int, le_int, gt_int, ge_int, eq_int, ne_int, min_int, max_int, neg_int, bool_bool, not_bool, is_none, isn_none, nn_int, nn_none, nn_tup, len_tup, len_lst, tup_lst, tup_tup, it_lst, it_tup, int_bool, int_int, oint_int, addI_int, subI_int, flat_tI, flat_int, flat_none, Option.bind_some, Option.map_some, Int.zero_add, thenB, thenM, List.nil_append, List.length_map, enum_map]
  refine bindE (loop_find (m := Option) (p := fun q : List Int × Nat => cont c q.1) (R := fun q => .int (q.2 : Nat)) rows.zipIdx fun q hq => ?_) ?_
  · have hr : q.1 ∈ rows := (List.mem_zipIdx hq).2.2 ▸ List.getElem_mem _
    have e : M_contains [.val (tI c), .val (tI q.1)] = some (.bool (cont c q.1)) := contains_eq (h _ hr) hs
    simp only [pairM, e, op2, op1, cmp2, chain3, tst, notB, andB, orB, andD, orD, iteM, consM, starM, smallM, tupM, tupSM, lstM, argV, argK, comp1, comp1i, comp2, comp2i, comp11, seqM, rng1, rng2, zipSM, zip2M, zip3M, enumM, repM, joinM, catM, par3LM, put2M, popM, parLV, putVM, unpS, trg1M, sortSetM, orV, lrg1M, par3M, rdM, rdLM, partM, slcM, isiM, rtM, forM1, forM2, forM3, parM, unp2, unp3, unp2A, unp3A, unp4A, ob_pure, ob_some, ob_lift, Option.pure_def, add_int, sub_int, lt_int, le_int, gt_int, ge_int, eq_int, ne_int, min_int, max_int, neg_int, bool_bool, not_bool, is_none, isn_none, nn_int, nn_none, nn_tup, len_tup, len_lst, tup_lst, tup_tup, it_lst, it_tup, int_bool, int_int, oint_int, addI_int, subI_int, flat_tI, flat_int, flat_none, Option.bind_some, Option.map_some, Int.zero_add, thenB, thenM, List.nil_append, List.length_map]
  · unfold fulf firstN
    cases rows.zipIdx.find? fun q => cont c q.1 <;> rfl
theorem totals_eq {k : Nat} {rows : List (List Int)} (h1 : 1 ≤ rows.length) (h4 : rows.length ≤ 4) (hl : ∀ r ∈ rows, r.length = k) (hk : k ≤ 1000) : m_totals_of (tT rows) = some (tI (cols rows k)) := by
  unfold m_totals_of
  simp only [op2, op1, cmp2, chain3, tst, notB, andB, orB, andD, orD, iteM, consM, starM, smallM, tupM, tupSM, lstM, argV, argK, comp1, comp1i, comp2, comp2i, comp11, seqM, rng1, rng2, zipSM, zip2M, zip3M, enumM, repM, joinM, catM, par3LM, put2M, popM, parLV, putVM, unpS, trg1M, sortSetM, orV, lrg1M, par3M, rdM, rdLM, partM, slcM, isiM, rtM, forM1, forM2, forM3, parM, unp2, unp3, unp2A, unp3A, unp4A, ob_pure, ob_some, ob_lift, itemsD, Option.bind_some]
  rw [zip_rows h1 h4 hl, ob_some, small_ok (by simp; omega), ob_some, lcA_mapM (List.range k) [] (F := fun i => tI (col rows i)) (G := fun i => .int (col rows i).sum) fun i _ => sum_tI _]
  simp only [ob_some, ob_pure, tupleD, List.nil_append, tI, cols, List.map_map, Function.comp_def]
theorem sizes_eq {rows : List (List Int)} (h4 : rows.length ≤ 1000) : m_sizes_of (tT rows) = some (tI (rows.map List.sum)) := by
  unfold m_sizes_of
  simp only [op2, op1, cmp2, chain3, tst, notB, andB, orB, andD, orD, iteM, consM, starM, smallM, tupM, tupSM, lstM, argV, argK, comp1, comp1i, comp2, comp2i, comp11, seqM, rng1, rng2, zipSM, zip2M, zip3M, enumM, repM, joinM, catM, par3LM, put2M, popM, parLV, putVM, unpS, trg1M, sortSetM, orV, lrg1M, par3M, rdM, rdLM, partM, slcM, isiM, rtM, forM1, forM2, forM3, parM, unp2, unp3, unp2A, unp3A, unp4A, ob_pure, ob_some, ob_lift, itemsD]
  rw [small_ok (by simp; omega), ob_some, lcA_mapM rows [] (F := tI) (G := fun r => .int r.sum) fun r _ => sum_tI _]
  simp only [ob_some, ob_pure, tupleD, List.nil_append, tI, List.map_map, Function.comp_def]
theorem set_get {P : List Int} {d e : Nat} {v : Int} (hd : d < P.length) : (P.set d v).getD e 0 = if e = d then v else P.getD e 0 := by
  rw [List.getD_eq_getElem?_getD, List.getElem?_set]
  by_cases h : d = e
  · subst h; simp [hd]
  · rw [if_neg h, if_neg (Ne.symm h), List.getD_eq_getElem?_getD]
theorem set_sum : ∀ {P : List Int} {d : Nat} {v : Int}, d < P.length → (P.set d v).sum = P.sum - P.getD d 0 + v
  | [], d, v, h => by simp at h
  | x :: P, 0, v, h => by simp [List.sum_cons]; omega
  | x :: P, d + 1, v, h => by
    have := set_sum (P := P) (d := d) (v := v) (by simpa using h)
    simp only [List.set_cons_succ, List.sum_cons, List.getD_cons_succ]
    omega
theorem row_mem {T : List (List Int)} {d : Nat} (h : d < T.length) : T.getD d [] ∈ T := by
  rw [List.getD_eq_getElem?_getD, List.getElem?_eq_getElem h]
  exact List.getElem_mem h
/-- a row, a table with another number -/
def setR (r : List Int) (j : Nat) (v : Int) : List Int := r.take j ++ [v] ++ r.drop (j + 1)
def setT (T : List (List Int)) (d j : Nat) (v : Int) : List (List Int) := T.take d ++ [setR (T.getD d []) j v] ++ T.drop (d + 1)
theorem setR_len {r : List Int} {j : Nat} {v : Int} (h : j < r.length) : (setR r j v).length = r.length := by simp [setR]; omega
theorem setR_mem {r : List Int} {j : Nat} {v x : Int} (h : x ∈ setR r j v) : x ∈ r ∨ x = v := by
  unfold setR at h
  rcases List.mem_append.mp h with h | h
  · rcases List.mem_append.mp h with h | h
    · exact .inl (List.mem_of_mem_take h)
    · exact .inr (List.mem_singleton.mp h)
  · exact .inl (List.mem_of_mem_drop h)
theorem setT_mem {T : List (List Int)} {d j : Nat} {v : Int} {r : List Int} (h : r ∈ setT T d j v) : r ∈ T ∨ r = setR (T.getD d []) j v := by
  unfold setT at h
  rcases List.mem_append.mp h with h | h
  · rcases List.mem_append.mp h with h | h
    · exact .inl (List.mem_of_mem_take h)
    · exact .inr (List.mem_singleton.mp h)
  · exact .inl (List.mem_of_mem_drop h)
theorem setT_len {T : List (List Int)} {d j : Nat} {v : Int} (h : d < T.length) : (setT T d j v).length = T.length := by simp [setT]; omega
theorem setT_stk {m : Int} {k : Nat} {T : List (List Int)} {d j : Nat} {v : Int} (st : Stk m k T) (hd : d < T.length) (hj : j < k) (hv : 0 ≤ v ∧ v ≤ m) : Stk m k (setT T d j v) := by
  have hrow := row_mem hd
  have hl : (T.getD d []).length = k := st.len _ hrow
  have el := setT_len (j := j) (v := v) hd
  refine ⟨by rw [el]; exact st.one, by rw [el]; exact st.four, st.k1, st.k4, fun r hr => ?_, fun r hr x hx => ?_⟩
  · rcases setT_mem hr with h | rfl
    · exact st.len r h
    · rw [setR_len (by omega), hl]
  · rcases setT_mem hr with h | rfl
    · exact st.ge r h x hx
    · rcases setR_mem hx with h | rfl
      · exact st.ge _ hrow x h
      · exact hv
def atT (T : List (List Int)) (d j : Nat) : Int := (T.getD d []).getD j 0
theorem at_T {m : Int} {k : Nat} {T : List (List Int)} {d j : Nat} (st : Stk m k T) (hd : d < T.length) (hj : j < k) : DD.getD (tI (T.getD d [])) (.int (j : Nat)) = some (.int (atT T d j)) := at_int (by rw [st.len _ (row_mem hd)]; exact hj)
theorem at_in {m : Int} {k : Nat} {T : List (List Int)} {d j : Nat} (st : Stk m k T) (hd : d < T.length) (hj : j < k) : 0 ≤ atT T d j ∧ atT T d j ≤ m := getD_in (st.ge _ (row_mem hd)) (i := j) (by rw [st.len _ (row_mem hd)]; exact hj)
theorem take_dt {γ : Type} {F : γ → D} (l : List γ) (j : Nat) : (l.map F).take j = (l.take j).map F := (List.map_take ..).symm
theorem drop_dt {γ : Type} {F : γ → D} (l : List γ) (j : Nat) : (l.map F).drop j = (l.drop j).map F := (List.map_drop ..).symm
/-! ### stocks, one thing less -/
theorem setR_set {r : List Int} {j : Nat} {v : Int} (h : j < r.length) : setR r j v = r.set j v := by
  unfold setR
  rw [List.set_eq_take_append_cons_drop, if_pos h]
  simp
theorem setT_set {T : List (List Int)} {d j : Nat} {v : Int} (hd : d < T.length) (hj : j < (T.getD d []).length) : setT T d j v = T.set d ((T.getD d []).set j v) := by
  unfold setT
  rw [setR_set hj]
  generalize (T.getD d []).set j v = r
  rw [List.set_eq_take_append_cons_drop, if_pos hd]
  simp
def takeT (S : List (List Int)) (d j : Nat) : List (List Int) := setT S d j (atT S d j - 1)
section
variable {k d j : Nat} {S : List (List Int)}
theorem take_set (st : Stk 50 k S) (hd : d < S.length) (hj : j < k) : takeT S d j = S.set d ((S.getD d []).set j (atT S d j - 1)) := setT_set hd (by rw [st.len _ (row_mem hd)]; exact hj)
theorem take_stk (st : Stk 50 k S) (hd : d < S.length) (hj : j < k) (hp : 0 < atT S d j) : Stk 50 k (takeT S d j) := setT_stk st hd hj (by have := at_in st hd hj; omega)
theorem map_getD {α : Type} (f : List Int → Int) {S : List (List Int)} {d : Nat} (hd : d < S.length) : (S.map f).getD d 0 = f (S.getD d []) := by simp [List.getD, hd]
theorem take_sum (st : Stk 50 k S) (hd : d < S.length) (hj : j < k) : ((takeT S d j).map List.sum).sum = (S.map List.sum).sum - 1 := by
  have hr := st.len _ (row_mem hd)
  rw [take_set st hd hj, List.map_set, set_sum (by rw [List.length_map]; exact hd), map_getD (α := Int) List.sum hd, set_sum (by rw [hr]; exact hj)]
  show _ - _ + ((S.getD d []).sum - atT S d j + (atT S d j - 1)) = _
  omega
theorem take_col {i : Nat} (st : Stk 50 k S) (hd : d < S.length) (hj : j < k) (hi : i < k) : (col (takeT S d j) i).sum = (col S i).sum - if i = j then 1 else 0 := by
  have hr := st.len _ (row_mem hd)
  rw [take_set st hd hj]
  unfold col
  rw [List.map_set, set_sum (by rw [List.length_map]; exact hd), map_getD (α := Int) (fun r => r.getD i 0) hd]
  rw [set_get (by rw [hr]; exact hj)]
  by_cases e : i = j
  · subst e
    rw [if_pos rfl, if_pos rfl]
    show _ - atT S d i + (atT S d i - 1) = _
    omega
  · rw [if_neg e, if_neg e]
    omega
end
/-! ### the game -/
def nonz (r : List Int) : List Nat := (List.range r.length).filter fun j => decide (0 < r.getD j 0)
theorem mem_nonz {r : List Int} {j : Nat} : j ∈ nonz r ↔ j < r.length ∧ 0 < r.getD j 0 := by simp [nonz]
theorem nonz_ne {r : List Int} (h : 0 < r.sum) : nonz r ≠ [] := fun e => by
  have h0 : ∀ x ∈ r, x ≤ 0 := fun x hx => by
    obtain ⟨j, hj, rfl⟩ := List.mem_iff_getElem.mp hx
    refine Int.not_lt.mp fun z => ?_
    have : j ∈ nonz r := mem_nonz.mpr ⟨hj, by simpa [List.getD, hj] using z⟩
    rw [e] at this
    cases this
  have key : ∀ r : List Int, (∀ x ∈ r, x ≤ 0) → r.sum ≤ 0 := fun r => by
    induction r with
    | nil => intro _; exact Int.le_refl _
    | cons x r ih =>
      intro h
      have h1 := h x List.mem_cons_self
      have h2 := ih fun y hy => h y (List.mem_cons_of_mem _ hy)
      rw [List.sum_cons]
      omega
  have := key r h0
  omega
def minZ (l : List Int) : Int := l.min?.getD 0
def maxZ (l : List Int) : Int := l.max?.getD 0
theorem minZ_ok {l : List Int} (h : l ≠ []) : l.min? = some (minZ l) ∧ minZ l ∈ l ∧ ∀ x ∈ l, minZ l ≤ x := by
  obtain ⟨m, hm⟩ := Option.ne_none_iff_exists'.mp (fun e => h (List.min?_eq_none_iff.mp e))
  have e : minZ l = m := by unfold minZ; rw [hm]; rfl
  rw [e]
  have := List.min?_eq_some_iff.mp hm
  exact ⟨hm, this.1, this.2⟩
theorem maxZ_ok {l : List Int} (h : l ≠ []) : l.max? = some (maxZ l) ∧ maxZ l ∈ l ∧ ∀ x ∈ l, x ≤ maxZ l := by
  obtain ⟨m, hm⟩ := Option.ne_none_iff_exists'.mp (fun e => h (List.max?_eq_none_iff.mp e))
  have e : maxZ l = m := by unfold maxZ; rw [hm]; rfl
  rw [e]
  have := List.max?_eq_some_iff.mp hm
  exact ⟨hm, this.1, this.2⟩
def szS (S : List (List Int)) : Nat := (S.map List.sum).sum.toNat
def gv (dn : List (List Int) → Bool) : Nat → List (List Int) → Int
  | 0, _ => 0
  | m + 1, S => if dn S = true then 0 else minZ ((nonz (S.map List.sum)).map fun d => 1 + maxZ ((nonz (S.getD d [])).map fun j => gv dn m (takeT S d j)))
section
variable {k d j m : Nat} {S : List (List Int)} {dn : List (List Int) → Bool}
theorem size_ge (st : Stk 50 k S) : ∀ x ∈ S.map List.sum, 0 ≤ x := fun x hx => by
  obtain ⟨r, hr, rfl⟩ := List.mem_map.mp hx
  exact (sum_in (B := 50) r fun y hy => by have := st.ge r hr y hy; omega).1
theorem sumz_ge0 : ∀ {l : List Int}, (∀ x ∈ l, 0 ≤ x) → 0 ≤ l.sum
  | [], _ => Int.le_refl _
  | x :: l, h => by
    have h1 := h x List.mem_cons_self
    have h2 := sumz_ge0 fun y hy => h y (List.mem_cons_of_mem _ hy)
    rw [List.sum_cons]
    omega
theorem szS_eq (st : Stk 50 k S) : ((szS S : Nat) : Int) = (S.map List.sum).sum := Int.toNat_of_nonneg (sumz_ge0 (size_ge st))
theorem full_mem (st : Stk 50 k S) (h : d ∈ nonz (S.map List.sum)) : d < S.length ∧ 0 < (S.getD d []).sum ∧ nonz (S.getD d []) ≠ [] := by
  obtain ⟨h1, h2⟩ := mem_nonz.mp h
  rw [List.length_map] at h1
  rw [map_getD (α := Int) List.sum h1] at h2
  exact ⟨h1, h2, nonz_ne h2⟩
theorem kind_mem (st : Stk 50 k S) (hd : d < S.length) (h : j ∈ nonz (S.getD d [])) : j < k ∧ 0 < atT S d j := by
  obtain ⟨h1, h2⟩ := mem_nonz.mp h
  rw [st.len _ (row_mem hd)] at h1
  exact ⟨h1, h2⟩
theorem sz_take (st : Stk 50 k S) (hd : d < S.length) (hj : j < k) (hp : 0 < atT S d j) : szS S = szS (takeT S d j) + 1 := by
  have h1 := szS_eq st
  have h2 := szS_eq (take_stk st hd hj hp)
  rw [take_sum st hd hj] at h2
  omega
theorem gv_zero (st : Stk 50 k S) (h : szS S = 0) : gv dn m S = 0 := by
  cases m with
  | zero => rfl
  | succ m =>
    have he : nonz (S.map List.sum) = [] := by
      cases e : nonz (S.map List.sum) with
      | nil => rfl
      | cons d l =>
        have hd : d ∈ nonz (S.map List.sum) := by rw [e]; exact List.mem_cons_self
        obtain ⟨h1, h2, h3⟩ := full_mem st hd
        obtain ⟨j, hj⟩ := List.exists_mem_of_ne_nil _ h3
        obtain ⟨h4, h5⟩ := kind_mem st h1 hj
        have := sz_take st h1 h4 h5
        omega
    show (if _ then _ else _) = _
    rw [he]
    split <;> rfl
theorem gv_stab : ∀ (m : Nat) {S : List (List Int)}, Stk 50 k S → szS S ≤ m → gv dn m S = gv dn (szS S) S
  | 0, S, st, h => by rw [Nat.le_zero.mp h]
  | m + 1, S, st, h => by
    by_cases h0 : szS S = 0
    · rw [gv_zero st h0, gv_zero st h0]
    obtain ⟨s, hs⟩ := Nat.exists_eq_succ_of_ne_zero h0
    rw [hs]
    show (if _ then _ else _) = (if _ then _ else _)
    congr 2
    refine List.map_congr_left fun d hd => ?_
    obtain ⟨h1, h2, h3⟩ := full_mem st hd
    congr 2
    refine List.map_congr_left fun j hj => ?_
    obtain ⟨h4, h5⟩ := kind_mem st h1 hj
    have := sz_take st h1 h4 h5
    have st' := take_stk st h1 h4 h5
    rw [gv_stab m st' (by omega), gv_stab s st' (by omega)]
  termination_by m => m
end
/-- the number of further things that are enough; the same if the next one comes from a drawer -/
def gV (dn : List (List Int) → Bool) (S : List (List Int)) : Int := gv dn (szS S) S
def gW (dn : List (List Int) → Bool) (S : List (List Int)) (d : Nat) : Int := 1 + maxZ ((nonz (S.getD d [])).map fun j => gV dn (takeT S d j))
section
variable {k d j : Nat} {S : List (List Int)} {dn : List (List Int) → Bool}
theorem gV_eq (st : Stk 50 k S) : gV dn S = if dn S = true then 0 else minZ ((nonz (S.map List.sum)).map fun d => gW dn S d) := by
  have h := gv_stab (dn := dn) (szS S + 1) st (Nat.le_succ _)
  unfold gV
  rw [← h]
  show (if _ then _ else _) = (if _ then _ else _)
  congr 2
  refine List.map_congr_left fun d hd => ?_
  obtain ⟨h1, h2, h3⟩ := full_mem st hd
  unfold gW
  congr 2
  refine List.map_congr_left fun j hj => ?_
  obtain ⟨h4, h5⟩ := kind_mem st h1 hj
  have := sz_take st h1 h4 h5
  exact gv_stab _ (take_stk st h1 h4 h5) (by omega)
theorem gV_done (st : Stk 50 k S) (h : dn S = true) : gV dn S = 0 := by rw [gV_eq st, if_pos h]
end
theorem runx_ifF {α : Type} {t : Prop} [Decidable t] {x y : ZX α} {ob o1 : List Cell} {a : α} (h : ¬ t) (hy : RunX y ob a o1) : RunX (if t then x else y) ob a o1 := by rw [if_neg h]; exact hy
theorem runx_ifT {α : Type} {t : Prop} [Decidable t] {x y : ZX α} {ob o1 : List Cell} {a : α} (h : t) (hy : RunX x ob a o1) : RunX (if t then x else y) ob a o1 := by rw [if_pos h]; exact hy
theorem run_ifF {α : Type} {t : Prop} [Decidable t] {x y : Z α} {ob o1 : List Cell} {a : α} (h : ¬ t) (hy : Run y ob a o1) : Run (if t then x else y) ob a o1 := by rw [if_neg h]; exact hy
theorem run_ifT {α : Type} {t : Prop} [Decidable t] {x y : Z α} {ob o1 : List Cell} {a : α} (h : t) (hy : Run x ob a o1) : Run (if t then x else y) ob a o1 := by rw [if_pos h]; exact hy
theorem Run.to {α : Type} {x : Z α} {ob o1 o2 : List Cell} {a : α} (h : Run x ob a o1) (e : o1 = o2) : Run x ob a o2 := e ▸ h
theorem RunX.to {α : Type} {x : ZX α} {ob o1 o2 : List Cell} {a : α} (h : RunX x ob a o1) (e : o1 = o2) : RunX x ob a o2 := e ▸ h
theorem at_mid {ob : List Cell} {x : Cell} {r : List Cell} : (ob ++ x :: r)[ob.length]? = some x := by
  rw [List.getElem?_append_right (Nat.le_refl _), Nat.sub_self]
  rfl
theorem okH_tI (r : List Int) : okH (tI r) = true := by
  show okHs (r.map .int) = true
  induction r with
  | nil => rfl
  | cons x r ih => exact ih
theorem okH_tT (T : List (List Int)) : okH (tT T) = true := by
  show okHs (T.map tI) = true
  induction T with
  | nil => rfl
  | cons x r ih =>
    show (okH (tI x) && okHs (r.map tI)) = true
    rw [okH_tI, ih]
    rfl
/-! ### Search -/
theorem wo_eq {k d j : Nat} {S : List (List Int)} (st : Stk 50 k S) (hd : d < S.length) (hj : j < k) : M_without_thing [.val (tT S), .val (.int (d : Nat)), .val (.int (j : Nat))] = some (tT (takeT S d j)) := by
  have h4 := st.four
  have hl : (S.getD d []).length = k := st.len _ (row_mem hd)
  have k4 := st.k4
  have hat := at_T st hd hj
  show m_without_thing (tT S) (.int (d : Nat)) (.int (j : Nat)) = _
  unfold m_without_thing
  simp only [op2, op1, cmp2, chain3, tst, notB, andB, orB, andD, orD, iteM, consM, starM, smallM, tupM, tupSM, lstM, argV, argK, comp1, comp1i, comp2, comp2i, comp11, seqM, rng1, rng2, zipSM, zip2M, zip3M, enumM, repM, joinM, catM, par3LM, put2M, popM, parLV, putVM, unpS, trg1M, sortSetM, orV, lrg1M, par3M, rdM, rdLM, partM, slcM, isiM, rtM, forM1, forM2, forM3, parM, unp2, unp3, unp2A, unp3A, unp4A, ob_pure, ob_some, ob_lift, Option.pure_def, add_int, sub_int, lt_int, le_int, gt_int, ge_int, eq_int, ne_int, min_int, max_int, neg_int, bool_bool, not_bool, is_none, isn_none, nn_int, nn_none, nn_tup, len_tup, len_lst, tup_lst, tup_tup, it_lst, it_tup, int_bool, int_int, oint_int, addI_int, subI_int, flat_tI, flat_int, flat_none, Option.bind_some, Option.map_some, Int.zero_add, thenB, thenM, List.nil_append, List.length_map, ob_assoc, get_row hd, hat]
  rw [show tT S = .tuple (S.map tI) from rfl, show tI (S.getD d []) = .tuple ((S.getD d []).map PyData.int) from rfl]
  rw [cut_loA (by omega), ob_some, cut_hiA (by omega), cut_loA (by omega), cut_hiA (by omega)]
  simp only [op2, op1, cmp2, chain3, tst, notB, andB, orB, andD, orD, iteM, consM, starM, smallM, tupM, tupSM, lstM, argV, argK, comp1, comp1i, comp2, comp2i, comp11, seqM, rng1, rng2, zipSM, zip2M, zip3M, enumM, repM, joinM, catM, par3LM, put2M, popM, parLV, putVM, unpS, trg1M, sortSetM, orV, lrg1M, par3M, rdM, rdLM, partM, slcM, isiM, rtM, forM1, forM2, forM3, parM, unp2, unp3, unp2A, unp3A, unp4A, ob_pure, ob_some, ob_lift, Option.pure_def, add_int, sub_int, lt_int, le_int, gt_int, ge_int, eq_int, ne_int, min_int, max_int, neg_int, bool_bool, not_bool, is_none, isn_none, nn_int, nn_none, nn_tup, len_tup, len_lst, tup_lst, tup_tup, it_lst, it_tup, int_bool, int_int, oint_int, addI_int, subI_int, flat_tI, flat_int, flat_none, Option.bind_some, Option.map_some, Int.zero_add, thenB, thenM, List.nil_append, List.length_map, ob_assoc]
  rw [Int.toNat_natCast, Int.toNat_natCast, show ((d : Int) + 1).toNat = d + 1 by omega, show ((j : Int) + 1).toNat = j + 1 by omega]
  simp only [take_dt, drop_dt]
  unfold takeT
  generalize atT S d j - 1 = v
  generalize hr : S.getD d [] = row at hl ⊢
  rw [small_ok (by simp; omega), ob_some, small_ok (by simp; omega), ob_some]
  subst hr
  simp [setT, setR, tT, tI]
theorem lcA_filt {m : Type → Type} [Mo m] [MoL m] {γ : Type} {f : D → m (Option D)} {F : γ → D} {p : γ → Bool} {G : γ → D} : ∀ (xs : List γ) (acc : List D), (∀ x ∈ xs, f (F x) = Pure.pure (if p x = true then some (G x) else none)) → lcA f (xs.map F) acc = Pure.pure (acc ++ (xs.filter p).map G)
  | [], acc, _ => by rw [List.map_nil]; show Pure.pure acc = _; simp
  | x :: xs, acc, h => by
    rw [List.map_cons]
    refine bindE (h x List.mem_cons_self) ?_
    rw [lcA_filt xs _ fun y hy => h y (List.mem_cons_of_mem _ hy), List.filter_cons]
    by_cases e : p x = true
    · rw [if_pos e, if_pos e]; simp
    · rw [if_neg e, if_neg e]; simp
theorem nonz_lc {m : Type → Type} [Mo m] [MoL m] (r : List Int) : lcA (m := m) (fun d => pairM d fun a b => ifM (Mo.lift ((gtD b (.int 0)).bind boolD)) (Pure.pure a)) (enumL (r.map .int)) [] = Pure.pure ((nonz r).map fun j : Nat => PyData.int (j : Nat)) := by
  rw [enum_map, zipIdx_range, List.map_map]
  refine (lcA_filt (F := fun j : Nat => PyData.tuple [.int (j : Nat), .int (r.getD j 0)]) (p := fun j => decide (0 < r.getD j 0)) (G := fun j : Nat => PyData.int (j : Nat)) (List.range r.length) [] fun j _ => ?_).trans ?_
  rotate_left
  · rfl
  · show ((Mo.lift ((gtD (.int (r.getD j 0)) (.int 0)).bind boolD) : m Bool) >>= fun k => if k = true then someM (Pure.pure (PyData.int (j : Nat))) else Pure.pure none) = _
    refine bindE (a := decide (0 < r.getD j 0)) (MoL.ls _) ?_
    by_cases h : 0 < r.getD j 0
    · rw [decide_eq_true h, if_pos rfl, if_pos rfl]
      exact bindE rfl rfl
    · rw [decide_eq_false h, if_neg (by decide), if_neg (by decide)]
abbrev serC (C : List (List Int)) (T : List Int) (kd : Nat) : Cell := .ins "Search" [("needs", tT C), ("totals", tI T), ("known", refD kd)]
def cnt (k : Nat) (T : List Int) (S : List (List Int)) : List Int := (T.zip (cols S k)).map fun p => p.1 - p.2
def dnS (k : Nat) (C : List (List Int)) (T : List Int) (S : List (List Int)) : Bool := (fulf C (cnt k T S)).isSome
theorem isN_oN (x : Option Nat) : isNone (oN x) = !x.isSome := by cases x <;> rfl
theorem run_done {k s kd : Nat} {C : List (List Int)} {T : List Int} {S : List (List Int)} {o : List Cell} (hs : o[s]? = some (serC C T kd)) (st : Stk 50 k S) (hC : ∀ r ∈ C, r.length = k) (hT : T.length = k) : Run (M_Search__is_done [.val (refD s), .val (tT S)]) o (.bool (dnS k C T S)) o := by
  have k4 := st.k4
  have e1 : M_totals_of [.val (tT S)] = some (tI (cols S k)) := totals_eq st.one st.four st.len (by omega)
  have hcl : (cols S k).length = k := by simp [cols]
  have ez : zipD [tI T, tI (cols S k)] = some ((T.zip (cols S k)).map fun p => .tuple [.int p.1, .int p.2]) := zip_map (by rw [hcl]; omega)
  show Run (m_Search__is_done (refD s) (tT S)) _ _ _
  unfold m_Search__is_done
  simp only [op2, op1, cmp2, chain3, tst, notB, andB, orB, andD, orD, iteM, consM, starM, smallM, tupM, tupSM, lstM, argV, argK, comp1, comp1i, comp2, comp2i, comp11, seqM, rng1, rng2, zipSM, zip2M, zip3M, enumM, repM, joinM, catM, par3LM, put2M, popM, parLV, putVM, unpS, trg1M, sortSetM, orV, lrg1M, par3M, rdM, rdLM, partM, slcM, isiM, rtM, forM1, forM2, forM3, parM, unp2, unp3, unp2A, unp3A, unp4A, zb_assoc, zb_pure, zl_some, zb_some, zx_assoc, zx_pure, zx_some, upz_pure, add_int, sub_int, lt_int, le_int, gt_int, ge_int, eq_int, ne_int, min_int, max_int, neg_int, bool_bool, not_bool, is_none, isn_none, nn_int, nn_none, nn_tup, len_tup, len_lst, tup_lst, tup_tup, it_lst, it_tup, int_bool, int_int, oint_int, addI_int, subI_int, flat_tI, flat_int, flat_none, Option.bind_some, Option.map_some, Int.zero_add, thenB, thenM, List.nil_append, List.length_map]
  refine Run.bind (run_attr hs (by kernel_rfl)) (Run.bind (Run.hid (a := tI (cols S k)) (by simp [okSl, okH_tT]) (by simp only [op2, op1, cmp2, chain3, tst, notB, andB, orB, andD, orD, iteM, consM, starM, smallM, tupM, tupSM, lstM, argV, argK, comp1, comp1i, comp2, comp2i, comp11, seqM, rng1, rng2, zipSM, zip2M, zip3M, enumM, repM, joinM, catM, par3LM, put2M, popM, parLV, putVM, unpS, trg1M, sortSetM, orV, lrg1M, par3M, rdM, rdLM, partM, slcM, isiM, rtM, forM1, forM2, forM3, parM, unp2, unp3, unp2A, unp3A, unp4A, ob_pure, ob_some, ob_lift, Option.pure_def, add_int, sub_int, lt_int, le_int, gt_int, ge_int, eq_int, ne_int, min_int, max_int, neg_int, bool_bool, not_bool, is_none, isn_none, nn_int, nn_none, nn_tup, len_tup, len_lst, tup_lst, tup_tup, it_lst, it_tup, int_bool, int_int, oint_int, addI_int, subI_int, flat_tI, flat_int, flat_none, Option.bind_some, Option.map_some, Int.zero_add, thenB, thenM, List.nil_append, List.length_map, ob_assoc, e1])) (Run.bL ez (Run.bL (small_ok (by rw [List.length_map, List.length_zip]; omega)) ?_)))
  rw [lcA_map2 (m := Z) (Ga := fun p : Int × Int => .int p.1) (Gb := fun p => .int p.2) (G := fun p => .int (p.1 - p.2)) (fun _ => rfl) (T.zip (cols S k)) [] fun p hp => zl_some _]
  have e2 : (([] : List D) ++ (T.zip (cols S k)).map fun p => PyData.int (p.1 - p.2)) = (cnt k T S).map .int := by unfold cnt; rw [List.map_map]; rfl
  rw [e2]
  have hl : (cnt k T S).length = k := by unfold cnt; rw [List.length_map, List.length_zip, hcl]; omega
  have ef : M_fulfilled_by [.val (tT C), .val (tI (cnt k T S))] = some (oN (fulf C (cnt k T S))) := fulf_eq (fun r hr => by rw [hC r hr, hl]; exact Nat.le_refl _) (by omega)
  refine Run.bind Run.pure (Run.bind (run_attr hs (by kernel_rfl)) (Run.bind (Run.hid (by have := okH_tT C; have := okH_tI (cnt k T S); simp_all [okSl]) ef) ?_))
  rw [isN_oN, Bool.not_not]
  exact Run.pure
/-! ### stocks below a stock -/
def subR : List Int → List (List Int)
  | [] => [[]]
  | x :: r => (List.range (x.toNat + 1)).flatMap fun i : Nat => (subR r).map fun q => Int.ofNat i :: q
def subs : List (List Int) → List (List (List Int))
  | [] => [[]]
  | r :: S => (subR r).flatMap fun q => (subs S).map fun T => q :: T
theorem len_flat {α β : Type} {f : α → List β} {m : Nat} : ∀ (l : List α), (∀ x ∈ l, (f x).length = m) → (l.flatMap f).length = l.length * m
  | [], _ => by simp
  | x :: l, h => by
    rw [List.flatMap_cons, List.length_append, h x List.mem_cons_self, len_flat l fun y hy => h y (List.mem_cons_of_mem _ hy), List.length_cons, Nat.succ_mul]
    omega
theorem two_pow (x : Nat) : x + 1 ≤ 2 ^ x := by
  induction x with
  | zero => decide
  | succ x ih => rw [Nat.pow_succ]; omega
theorem subR_len : ∀ (r : List Int), (∀ x ∈ r, 0 ≤ x) → (subR r).length ≤ 2 ^ r.sum.toNat
  | [], _ => by decide
  | x :: r, h => by
    have hx := h x List.mem_cons_self
    have hr : ∀ y ∈ r, 0 ≤ y := fun y hy => h y (List.mem_cons_of_mem _ hy)
    have h0 := sumz_ge0 hr
    have ih := subR_len r hr
    have e : (subR (x :: r)).length = (x.toNat + 1) * (subR r).length := by
      show ((List.range (x.toNat + 1)).flatMap fun i : Nat => (subR r).map fun q => Int.ofNat i :: q).length = _
      rw [len_flat (m := (subR r).length) _ fun i _ => by rw [List.length_map], List.length_range]
    rw [e, List.sum_cons, Int.toNat_add hx h0, Nat.pow_add]
    exact Nat.mul_le_mul (two_pow _) ih
theorem subs_len : ∀ (S : List (List Int)), (∀ r ∈ S, ∀ x ∈ r, 0 ≤ x) → (subs S).length ≤ 2 ^ (S.map List.sum).sum.toNat
  | [], _ => by decide
  | r :: S, h => by
    have hr := h r List.mem_cons_self
    have hS : ∀ q ∈ S, ∀ x ∈ q, 0 ≤ x := fun q hq => h q (List.mem_cons_of_mem _ hq)
    have h1 := sumz_ge0 hr
    have h2 : 0 ≤ (S.map List.sum).sum := sumz_ge0 fun x hx => by
      obtain ⟨q, hq, rfl⟩ := List.mem_map.mp hx
      exact sumz_ge0 (hS q hq)
    have e : (subs (r :: S)).length = (subR r).length * (subs S).length := by
      show ((subR r).flatMap fun q => (subs S).map fun T => q :: T).length = _
      rw [len_flat (m := (subs S).length) _ fun i _ => by rw [List.length_map]]
    rw [e, List.map_cons, List.sum_cons, Int.toNat_add h1 h2, Nat.pow_add]
    exact Nat.mul_le_mul (subR_len r hr) (subs_len S hS)
/-- row by row, number by number no more -/
def leR (q r : List Int) : Prop := q.length = r.length ∧ ∀ j, j < r.length → 0 ≤ q.getD j 0 ∧ q.getD j 0 ≤ r.getD j 0
def leS (T S : List (List Int)) : Prop := T.length = S.length ∧ ∀ d, d < S.length → leR (T.getD d []) (S.getD d [])
theorem mem_subR : ∀ {r q : List Int}, leR q r → q ∈ subR r
  | [], [], _ => List.mem_singleton.mpr rfl
  | [], _ :: _, h => by cases h.1
  | _ :: _, [], h => by cases h.1
  | x :: r, y :: q, h => by
    have h0 := h.2 0 (by simp)
    have e0 : (y :: q).getD 0 0 = y ∧ (x :: r).getD 0 0 = x := ⟨rfl, rfl⟩
    rw [e0.1, e0.2] at h0
    have hy : Int.ofNat y.toNat = y := Int.toNat_of_nonneg h0.1
    refine List.mem_flatMap.mpr ⟨y.toNat, List.mem_range.mpr (by omega), List.mem_map.mpr ⟨q, mem_subR ⟨by simpa using h.1, fun j hj => ?_⟩, by rw [hy]⟩⟩
    have := h.2 (j + 1) (by simp; omega)
    simpa using this
theorem mem_subs : ∀ {S T : List (List Int)}, leS T S → T ∈ subs S
  | [], [], _ => List.mem_singleton.mpr rfl
  | [], _ :: _, h => by cases h.1
  | _ :: _, [], h => by cases h.1
  | r :: S, q :: T, h => by
    have h0 := h.2 0 (by simp)
    refine List.mem_flatMap.mpr ⟨q, mem_subR (by simpa using h0), List.mem_map.mpr ⟨T, mem_subs ⟨by simpa using h.1, fun d hd => ?_⟩, rfl⟩⟩
    have := h.2 (d + 1) (by simp; omega)
    simpa using this
theorem leS_refl {k : Nat} {S : List (List Int)} (st : Stk 50 k S) : leS S S := ⟨rfl, fun d hd => ⟨rfl, fun j hj => ⟨by
  have hr := row_mem hd
  generalize S.getD d [] = r at hr hj ⊢
  have e : r.getD j 0 = r[j] := by simp [List.getD_eq_getElem?_getD, hj]
  rw [e]
  exact (st.ge _ hr _ (List.getElem_mem hj)).1, Int.le_refl _⟩⟩⟩
theorem leS_take {k d j : Nat} {S T : List (List Int)} (st : Stk 50 k T) (h : leS T S) (hd : d < T.length) (hj : j < k) (hp : 0 < atT T d j) : leS (takeT T d j) S := by
  have hl := st.len _ (row_mem hd)
  rw [take_set st hd hj]
  refine ⟨by rw [List.length_set]; exact h.1, fun e he => ?_⟩
  have he' : e < T.length := by rw [h.1]; exact he
  have hg : (T.set d ((T.getD d []).set j (atT T d j - 1))).getD e [] = if d = e then (T.getD d []).set j (atT T d j - 1) else T.getD e [] := by
    rw [List.getD_eq_getElem?_getD, List.getElem?_set]
    by_cases z : d = e
    · subst z; simp [hd]
    · rw [if_neg z, if_neg z, List.getD_eq_getElem?_getD]
  rw [hg]
  by_cases z : d = e
  · subst z
    rw [if_pos rfl]
    obtain ⟨h1, h2⟩ := h.2 d he
    refine ⟨by rw [List.length_set]; exact h1, fun i hi => ?_⟩
    have h3 := h2 i hi
    rw [set_get (by rw [hl]; exact hj)]
    by_cases y : i = j
    · subst y
      rw [if_pos rfl]
      have e : atT T d i = (T.getD d []).getD i 0 := rfl
      omega
    · rw [if_neg y]
      exact h3
  · rw [if_neg z]
    exact h.2 e he
theorem nodup_le {α : Type} [DecidableEq α] : ∀ {l L : List α}, l.Nodup → (∀ x ∈ l, x ∈ L) → l.length ≤ L.length
  | [], _, _, _ => Nat.zero_le _
  | x :: l, L, hn, h => by
    have hx := h x List.mem_cons_self
    obtain ⟨hx2, hn2⟩ := List.nodup_cons.mp hn
    have := nodup_le (l := l) (L := L.erase x) hn2 fun y hy => (List.mem_erase_of_ne (fun e : y = x => hx2 (e ▸ hy))).mpr (h y (List.mem_cons_of_mem _ hy))
    rw [List.length_erase_of_mem hx] at this
    have hp : 0 < L.length := List.length_pos_of_mem hx
    rw [List.length_cons]
    omega
/-! ### the dict of a search -/
theorem valK_none {kvs : List (List (List Int) × Int)} {S : List (List Int)} : valK kvs S = none ↔ S ∉ kvs.map (·.1) := by
  unfold valK
  rw [Option.map_eq_none_iff, List.find?_eq_none]
  constructor
  · intro h hm
    obtain ⟨p, hp, e⟩ := List.mem_map.mp hm
    exact h p hp (decide_eq_true e)
  · intro h p hp hd
    exact h (List.mem_map.mpr ⟨p, hp, of_decide_eq_true hd⟩)
theorem valK_sto {kvs : List (List (List Int) × Int)} {S S' : List (List Int)} {v : Int} : valK (stoK kvs S v) S' = if S' = S then some v else valK kvs S' := by
  have hrep : ∀ l : List (List (List Int) × Int), valK (l.map fun p => if p.1 = S then (p.1, v) else p) S' = if S' = S then (valK l S').map fun _ => v else valK l S' := fun l => by
    induction l with
    | nil => simp [valK]
    | cons p l ih =>
      unfold valK at ih ⊢
      rw [List.map_cons, List.find?_cons, List.find?_cons]
      have e1 : (if p.1 = S then (p.1, v) else p).1 = p.1 := by split <;> rfl
      rw [e1]
      by_cases h : p.1 = S'
      · rw [decide_eq_true h]
        by_cases h2 : p.1 = S
        · rw [if_pos h2, if_pos (h ▸ h2)]; rfl
        · rw [if_neg h2, if_neg (fun e => h2 (h.trans e))]
      · rw [decide_eq_false h]
        exact ih
  have happ : ∀ l : List (List (List Int) × Int), valK (l ++ [(S, v)]) S' = (valK l S').or (if S = S' then some v else none) := fun l => by
    unfold valK
    rw [List.find?_append]
    cases l.find? fun p => decide (p.1 = S') with
    | some q => rfl
    | none =>
      rw [List.find?_cons]
      by_cases h : S = S'
      · rw [decide_eq_true h, if_pos h]; rfl
      · rw [decide_eq_false h, if_neg h]; rfl
  unfold stoK
  by_cases hs : (valK kvs S).isSome = true
  · rw [if_pos hs, hrep]
    by_cases e : S' = S
    · subst e
      rw [if_pos rfl, if_pos rfl]
      obtain ⟨w, hw⟩ := Option.isSome_iff_exists.mp hs
      rw [hw]; rfl
    · rw [if_neg e, if_neg e]
  · rw [if_neg hs, happ]
    by_cases e : S' = S
    · subst e
      have : valK kvs S' = none := by simpa using hs
      rw [this, if_pos rfl]; simp
    · rw [if_neg (fun z => e z.symm), if_neg e]
      cases valK kvs S' <;> rfl
structure Kn (S0 : List (List Int)) (dn : List (List Int) → Bool) (kvs : List (List (List Int) × Int)) : Prop where
  val : ∀ S v, valK kvs S = some v → v = gV dn S
  nd : (kvs.map (·.1)).Nodup
  sub : ∀ S ∈ kvs.map (·.1), S ∈ subs S0
theorem Kn.nil {S0 : List (List Int)} {dn : List (List Int) → Bool} : Kn S0 dn [] := ⟨(fun S v h => by cases h), List.nodup_nil, (fun S h => by cases h)⟩
theorem Kn.put {S0 S : List (List Int)} {dn : List (List Int) → Bool} {kvs : List (List (List Int) × Int)} (h : Kn S0 dn kvs) (hS : S ∈ subs S0) : Kn S0 dn (stoK kvs S (gV dn S)) := by
  refine ⟨fun S' v hv => ?_, ?_, ?_⟩
  · rw [valK_sto] at hv
    by_cases e : S' = S
    · rw [if_pos e] at hv
      cases hv
      rw [e]
    · rw [if_neg e] at hv
      exact h.val _ _ hv
  · unfold stoK
    split
    · have : (kvs.map fun p => if p.1 = S then (p.1, gV dn S) else p).map (·.1) = kvs.map (·.1) := by
        rw [List.map_map]
        refine List.map_congr_left fun p _ => ?_
        show (if p.1 = S then (p.1, gV dn S) else p).1 = p.1
        split <;> rfl
      rw [this]
      exact h.nd
    · rename_i hs
      have hn : S ∉ kvs.map (·.1) := valK_none.mp (by simpa using hs)
      rw [List.map_append]
      refine List.nodup_append.mpr ⟨h.nd, by simp, fun x hx y hy e => ?_⟩
      rw [List.map_singleton, List.mem_singleton] at hy
      rw [e, hy] at hx
      exact hn hx
  · unfold stoK
    split
    · have : (kvs.map fun p => if p.1 = S then (p.1, gV dn S) else p).map (·.1) = kvs.map (·.1) := by
        rw [List.map_map]
        refine List.map_congr_left fun p _ => ?_
        show (if p.1 = S then (p.1, gV dn S) else p).1 = p.1
        split <;> rfl
      rw [this]
      exact h.sub
    · intro x hx
      rw [List.map_append] at hx
      rcases List.mem_append.mp hx with hx | hx
      · exact h.sub x hx
      · rw [List.mem_singleton.mp hx]; exact hS
theorem Kn.len {S0 : List (List Int)} {dn : List (List Int) → Bool} {kvs : List (List (List Int) × Int)} {k : Nat} (h : Kn S0 dn kvs) (st : Stk 50 k S0) (h14 : szS S0 ≤ 14) : kvs.length ≤ 16384 := by
  have h1 := nodup_le h.nd h.sub
  rw [List.length_map] at h1
  have h2 := subs_len S0 fun r hr x hx => (st.ge r hr x hx).1
  have h3 : 2 ^ (S0.map List.sum).sum.toNat ≤ 2 ^ 14 := Nat.pow_le_pow_right (by decide) h14
  have h4 : 2 ^ 14 = 16384 := rfl
  omega
/-! ### runs of a search -/
theorem run_inK {ob : List Cell} {k : Nat} {kvs : List (List (List Int) × Int)} {S : List (List Int)} {ng : Bool} (h : ob[k]? = some (.dic kvs)) : Run (OverZ.up (inK ng (tT S) (refD k))) ob (.bool ((valK kvs S).isSome != ng)) ob := fun n φ q => ⟨k, own_ref k, kvs, h, S, stkD_ok S, q⟩
theorem run_getK {ob : List Cell} {k : Nat} {kvs : List (List (List Int) × Int)} {S : List (List Int)} {v : Int} (h : ob[k]? = some (.dic kvs)) (hv : valK kvs S = some v) : Run (OverZ.up (getK (refD k) (tT S))) ob (.int v) ob := fun n φ q => ⟨k, own_ref k, kvs, h, S, stkD_ok S, v, hv, q⟩
theorem run_setK {ob : List Cell} {k : Nat} {kvs : List (List (List Int) × Int)} {S : List (List Int)} {v : Int} (h : ob[k]? = some (.dic kvs)) (hl : kvs.length ≤ 16384) : Run (OverZ.up (setK (refD k) (tT S) (.int v))) ob () (ob.set k (.dic (stoK kvs S v))) := fun n φ q => ⟨k, own_ref k, kvs, h, S, stkD_ok S, v, rfl, (), fits_ok (by omega), q⟩
section
variable {o : List Cell} {kd : Nat} {S0 : List (List Int)} {dn : List (List Int) → Bool}
theorem run_lcS {f : D → Z D} {F G : Nat → D} : ∀ (xs : List Nat) (acc : List D) (kvs : List (List (List Int) × Int)), Kn S0 dn kvs →
    (∀ x ∈ xs, ∀ kvs, Kn S0 dn kvs → ∃ kvs', Run (f (F x)) (o.set kd (.dic kvs)) (G x) (o.set kd (.dic kvs')) ∧ Kn S0 dn kvs') →
    ∃ kvs', Run (lcA (fun d => someM (f d)) (xs.map F) acc) (o.set kd (.dic kvs)) (acc ++ xs.map G) (o.set kd (.dic kvs')) ∧ Kn S0 dn kvs'
  | [], acc, kvs, hk, _ => ⟨kvs, by rw [List.map_nil, List.map_nil, List.append_nil]; exact Run.pure, hk⟩
  | x :: xs, acc, kvs, hk, h => by
    obtain ⟨kvs1, r1, hk1⟩ := h x List.mem_cons_self kvs hk
    obtain ⟨kvs2, r2, hk2⟩ := run_lcS xs (acc ++ [G x]) kvs1 hk1 fun y hy => h y (List.mem_cons_of_mem _ hy)
    rw [List.append_assoc, List.singleton_append] at r2
    exact ⟨kvs2, Run.bind (Run.bind r1 Run.pure) r2, hk2⟩
variable {k s d : Nat} {C : List (List Int)} {T : List Int} {S : List (List Int)} {FF : List Sl → Z D}
theorem at_ins (hs : o[s]? = some (serC C T kd)) (hne : kd ≠ s) {c : Cell} : (o.set kd c)[s]? = some (serC C T kd) := by rw [List.getElem?_set_ne hne]; exact hs
theorem at_dic (hl : kd < o.length) {c : Cell} : (o.set kd c)[kd]? = some c := List.getElem?_set_self hl
theorem run_worst (hs : o[s]? = some (serC C T kd)) (hne : kd ≠ s) (st : Stk 50 k S) (hd : d ∈ nonz (S.map List.sum)) (hF : ∀ j ∈ nonz (S.getD d []), ∀ kvs, Kn S0 dn kvs → ∃ kvs', Run (FF [.val (refD s), .val (tT (takeT S d j))]) (o.set kd (.dic kvs)) (.int (gV dn (takeT S d j))) (o.set kd (.dic kvs')) ∧ Kn S0 dn kvs') {kvs : List (List (List Int) × Int)} (hk : Kn S0 dn kvs) :
    ∃ kvs', Run (ar3 (m_Search__worst FF) [.val (refD s), .val (tT S), .val (.int (d : Nat))]) (o.set kd (.dic kvs)) (.int (gW dn S d)) (o.set kd (.dic kvs')) ∧ Kn S0 dn kvs' := by
  obtain ⟨hdl, _, hn⟩ := full_mem st hd
  have k4 := st.k4
  have hrl := st.len _ (row_mem hdl)
  have hnl : (nonz (S.getD d [])).length ≤ 4 := by
    have : (nonz (S.getD d [])).length ≤ (List.range (S.getD d []).length).length := List.length_filter_le _ _
    rw [List.length_range] at this
    omega
  obtain ⟨kvs', hr, hk'⟩ := run_lcS (o := o) (kd := kd) (S0 := S0) (dn := dn) (f := fun d_1 => OverZ.up (selfZ "Search" "further" (refD s)) >>= fun _ => OverZ.up (hidP (m' := Option) [.any, .val (tT S), .val (.int (d : Nat)), .any, .val d_1, .any] ((Pure.pure (tT S) >>= fun d_2 => (Pure.pure (.int (d : Nat)) >>= fun d => (Pure.pure d_1 >>= fun d => Pure.pure ([] : List Sl) >>= fun as => Pure.pure (.val d :: as)) >>= fun as => Pure.pure (.val d :: as)) >>= fun as => Pure.pure (.val d_2 :: as)) >>= M_without_thing)) >>= fun a => FF [.val (refD s), .val a]) (F := fun j : Nat => PyData.int (j : Nat)) (G := fun j => .int (gV dn (takeT S d j))) (nonz (S.getD d [])) [] kvs hk fun j hj kvs hk => by
    obtain ⟨hjk, hp⟩ := kind_mem st hdl hj
    obtain ⟨kvs', hr, hk'⟩ := hF j hj kvs hk
    exact ⟨kvs', Run.bind (run_self (at_ins hs hne) (by kernel_rfl)) (Run.bind (Run.hid (a := tT (takeT S d j)) (by have := okH_tT S; simp_all [okSl]; exact ⟨rfl, rfl⟩) (by simp only [op2, op1, cmp2, chain3, tst, notB, andB, orB, andD, orD, iteM, consM, starM, smallM, tupM, tupSM, lstM, argV, argK, comp1, comp1i, comp2, comp2i, comp11, seqM, rng1, rng2, zipSM, zip2M, zip3M, enumM, repM, joinM, catM, par3LM, put2M, popM, parLV, putVM, unpS, trg1M, sortSetM, orV, lrg1M, par3M, rdM, rdLM, partM, slcM, isiM, rtM, forM1, forM2, forM3, parM, unp2, unp3, unp2A, unp3A, unp4A, ob_pure, ob_some, ob_lift, Option.pure_def, add_int, sub_int, lt_int, le_int, gt_int, ge_int, eq_int, ne_int, min_int, max_int, neg_int, bool_bool, not_bool, is_none, isn_none, nn_int, nn_none, nn_tup, len_tup, len_lst, tup_lst, tup_tup, it_lst, it_tup, int_bool, int_int, oint_int, addI_int, subI_int, flat_tI, flat_int, flat_none, Option.bind_some, Option.map_some, Int.zero_add, thenB, thenM, List.nil_append, List.length_map, ob_assoc, wo_eq st hdl hjk])) hr), hk'⟩
  refine ⟨kvs', ?_, hk'⟩
  show Run (m_Search__worst FF (refD s) (tT S) (.int (d : Nat))) _ _ _
  unfold m_Search__worst
  simp only [op2, op1, cmp2, chain3, tst, notB, andB, orB, andD, orD, iteM, consM, starM, smallM, tupM, tupSM, lstM, argV, argK, comp1, comp1i, comp2, comp2i, comp11, seqM, rng1, rng2, zipSM, zip2M, zip3M, enumM, repM, joinM, catM, par3LM, put2M, popM, parLV, putVM, unpS, trg1M, sortSetM, orV, lrg1M, par3M, rdM, rdLM, partM, slcM, isiM, rtM, forM1, forM2, forM3, parM, unp2, unp3, unp2A, unp3A, unp4A, zb_assoc, zb_pure, zl_some, zb_some, zx_assoc, zx_pure, zx_some, upz_pure, add_int, sub_int, lt_int, le_int, gt_int, ge_int, eq_int, ne_int, min_int, max_int, neg_int, bool_bool, not_bool, is_none, isn_none, nn_int, nn_none, nn_tup, len_tup, len_lst, tup_lst, tup_tup, it_lst, it_tup, int_bool, int_int, oint_int, addI_int, subI_int, flat_tI, flat_int, flat_none, Option.bind_some, Option.map_some, Int.zero_add, thenB, thenM, List.nil_append, List.length_map, get_row hdl]
  refine Run.bL (small_ok (by rw [enumL_len, List.length_map]; omega)) ?_
  rw [nonz_lc]
  refine Run.bind Run.pure (Run.bL (small_ok (by rw [List.length_map]; omega)) (Run.bind hr ?_))
  have hm := (maxZ_ok (l := (nonz (S.getD d [])).map fun j => gV dn (takeT S d j)) (fun e => hn (List.map_eq_nil_iff.mp e))).1
  have e : ([] : List D) ++ (nonz (S.getD d [])).map (fun j => PyData.int (gV dn (takeT S d j))) = ((nonz (S.getD d [])).map fun j => gV dn (takeT S d j)).map PyData.int := by rw [List.map_map]; rfl
  rw [e]
  exact Run.bL (max_lI hm) (Run.lift (add_int _ _))
end
section
variable {o : List Cell} {kd k s : Nat} {S0 C : List (List Int)} {T : List Int}
theorem run_further (hs : o[s]? = some (serC C T kd)) (hne : kd ≠ s) (hl : kd < o.length) (st0 : Stk 50 k S0) (h14 : szS S0 ≤ 14) (hC : ∀ r ∈ C, r.length = k) (hT : T.length = k) (hd0 : ∀ S, Stk 50 k S → szS S = 0 → dnS k C T S = true) : ∀ (m : Nat) {S : List (List Int)}, Stk 50 k S → leS S S0 → szS S < m → ∀ kvs, Kn S0 (dnS k C T) kvs →
    ∃ kvs', Run (ar2 (m_Search__further m) [.val (refD s), .val (tT S)]) (o.set kd (.dic kvs)) (.int (gV (dnS k C T) S)) (o.set kd (.dic kvs')) ∧ Kn S0 (dnS k C T) kvs'
  | 0, S, _, _, h, _, _ => absurd h (Nat.not_lt_zero _)
  | m + 1, S, st, hle, h, kvs, hk => by
    have hS : S ∈ subs S0 := mem_subs hle
    have f4 := st.four
    have f1 := st.one
    have ha : ∀ c : Cell, Run (OverZ.up (attrZ "Search" "known" (refD s))) (o.set kd c) (refD kd) (o.set kd c) := fun c => run_attr (at_ins hs hne) (by kernel_rfl)
    have es : M_sizes_of [.val (tT S)] = some (tI (S.map List.sum)) := sizes_eq (by omega)
    have hnl : (nonz (S.map List.sum)).length ≤ 4 := by
      have : (nonz (S.map List.sum)).length ≤ (List.range (S.map List.sum).length).length := List.length_filter_le _ _
      rw [List.length_range, List.length_map] at this
      omega
    suffices hh : ∃ kvs', Run (if ((valK kvs S).isSome != true) = true then (OverZ.up (hidP (m' := Option) [.any, .val (tT S), .any, .any, .any] ((((Pure.pure (tT S) >>= fun d => Pure.pure ([] : List Sl) >>= fun as => Pure.pure (.val d :: as)) >>= M_sizes_of) >>= fun d => Mo.lift ((itemsD d).map enumL)) >>= fun ds => Mo.lift (small ds) >>= fun ds => lcA (fun d => pairM d fun a b => ifM (Pure.pure b >>= fun dx => Pure.pure (PyData.int 0) >>= fun dy => Mo.lift ((gtD dx dy).bind boolD)) (Pure.pure a)) ds [])) >>= fun v151 => OverZ.up (selfZ "Search" "is_done" (refD s)) >>= fun _ => M_Search__is_done [.val (refD s), .val (tT S)] >>= fun a => Mo.lift (boolD a) >>= fun a => (if a = true then Pure.pure (.int 0) else Mo.lift (small v151) >>= fun a => lcA (fun d => someM (OverZ.up (selfZ "Search" "worst" (refD s)) >>= fun _ => ar3 (m_Search__worst (ar2 (m_Search__further m))) [.val (refD s), .val (tT S), .val d])) a [] >>= fun a => Mo.lift (minD (.list a))) >>= fun a => OverZ.up (attrZ "Search" "known" (refD s)) >>= fun a_1 => OverZ.up (setK a_1 (tT S) a) >>= fun _ => (Pure.pure (Fl.nx ()) : Z (Fl Unit))) else Pure.pure (Fl.nx ())) (o.set kd (.dic kvs)) (Fl.nx ()) (o.set kd (.dic kvs')) ∧ Kn S0 (dnS k C T) kvs' ∧ valK kvs' S = some (gV (dnS k C T) S) by
      obtain ⟨kvs', hr, hk', hv⟩ := hh
      refine ⟨kvs', ?_, hk'⟩
      show Run (m_Search__further (m + 1) (refD s) (tT S)) _ _ _
      unfold m_Search__further
      simp only [op2, op1, cmp2, chain3, tst, notB, andB, orB, andD, orD, iteM, consM, starM, smallM, tupM, tupSM, lstM, argV, argK, comp1, comp1i, comp2, comp2i, comp11, seqM, rng1, rng2, zipSM, zip2M, zip3M, enumM, repM, joinM, catM, par3LM, put2M, popM, parLV, putVM, unpS, trg1M, sortSetM, orV, lrg1M, par3M, rdM, rdLM, partM, slcM, isiM, rtM, forM1, forM2, forM3, parM, unp2, unp3, unp2A, unp3A, unp4A, zb_assoc, zb_pure, zl_some, zb_some, zx_assoc, zx_pure, zx_some, upz_pure, add_int, sub_int, lt_int, le_int, gt_int, ge_int, eq_int, ne_int, min_int, max_int, neg_int, bool_bool, not_bool, is_none, isn_none, nn_int, nn_none, nn_tup, len_tup, len_lst, tup_lst, tup_tup, it_lst, it_tup, int_bool, int_int, oint_int, addI_int, subI_int, flat_tI, flat_int, flat_none, Option.bind_some, Option.map_some, Int.zero_add, thenB, thenM, List.nil_append, List.length_map]
      exact Run.bind (ha _) (Run.bind (run_inK (at_dic hl)) (Run.bL rfl (Run.bind hr (Run.bind (ha _) (run_getK (at_dic hl) hv)))))
    cases hv : valK kvs S with
    | some v =>
      have e := hk.val S v hv
      exact ⟨kvs, run_ifF (by simp) Run.pure, hk, by rw [hv, e]⟩
    | none =>
      have hw : ∃ kvs1, Run (if dnS k C T S = true then (Pure.pure (.int 0) : Z D) else Mo.lift (small ((nonz (S.map List.sum)).map fun j : Nat => PyData.int (j : Nat))) >>= fun a => lcA (fun d => someM (OverZ.up (selfZ "Search" "worst" (refD s)) >>= fun _ => ar3 (m_Search__worst (ar2 (m_Search__further m))) [.val (refD s), .val (tT S), .val d])) a [] >>= fun a => Mo.lift (minD (.list a))) (o.set kd (.dic kvs)) (.int (gV (dnS k C T) S)) (o.set kd (.dic kvs1)) ∧ Kn S0 (dnS k C T) kvs1 := by
        cases hdn : dnS k C T S with
        | true => exact ⟨kvs, run_ifT rfl (by rw [gV_done st hdn]; exact Run.pure), hk⟩
        | false =>
          have hpos : 0 < szS S := by
            refine Nat.pos_of_ne_zero fun z => ?_
            rw [hd0 S st z] at hdn
            cases hdn
          have hsum : 0 < (S.map List.sum).sum := by have := szS_eq st; omega
          obtain ⟨kvs1, hr, hk1⟩ := run_lcS (o := o) (kd := kd) (S0 := S0) (dn := dnS k C T) (f := fun d => OverZ.up (selfZ "Search" "worst" (refD s)) >>= fun _ => ar3 (m_Search__worst (ar2 (m_Search__further m))) [.val (refD s), .val (tT S), .val d]) (F := fun j : Nat => PyData.int (j : Nat)) (G := fun d => .int (gW (dnS k C T) S d)) (nonz (S.map List.sum)) [] kvs hk fun d hd kvs hk => by
            obtain ⟨hdl, _, hn⟩ := full_mem st hd
            obtain ⟨kvs', hr, hk'⟩ := run_worst (S0 := S0) (FF := ar2 (m_Search__further m)) hs hne st hd (fun j hj kvs hk => by
              obtain ⟨hjk, hp⟩ := kind_mem st hdl hj
              have hz := sz_take st hdl hjk hp
              exact run_further hs hne hl st0 h14 hC hT hd0 m (take_stk st hdl hjk hp) (leS_take st hle hdl hjk hp) (by omega) kvs hk) hk
            exact ⟨kvs', Run.bind (run_self (at_ins hs hne) (by kernel_rfl)) hr, hk'⟩
          have hm := (minZ_ok (l := (nonz (S.map List.sum)).map fun d => gW (dnS k C T) S d) (fun e => nonz_ne hsum (List.map_eq_nil_iff.mp e))).1
          have e : ([] : List D) ++ (nonz (S.map List.sum)).map (fun d => PyData.int (gW (dnS k C T) S d)) = ((nonz (S.map List.sum)).map fun d => gW (dnS k C T) S d).map PyData.int := by rw [List.map_map]; rfl
          rw [e] at hr
          refine ⟨kvs1, run_ifF (by decide) (Run.bL (small_ok (by rw [List.length_map]; omega)) (Run.bind hr (Run.lift ?_))), hk1⟩
          rw [min_lI hm, gV_eq st, hdn]
          rfl
      obtain ⟨kvs1, hr, hk1⟩ := hw
      refine ⟨stoK kvs1 S (gV (dnS k C T) S), run_ifT rfl (Run.bind (a := (nonz (S.map List.sum)).map fun j : Nat => PyData.int (j : Nat)) (Run.hid (by have := okH_tT S; simp_all [okSl]) ?_) (Run.bind (run_self (at_ins hs hne) (by kernel_rfl)) (Run.bind (run_done (at_ins hs hne) st hC hT) (Run.bL rfl (Run.bind hr (Run.bind (ha _) (Run.bind (run_setK (at_dic hl) (hk1.len st0 h14)) ?_))))))), hk1.put hS, by rw [valK_sto, if_pos rfl]⟩
      · simp only [op2, op1, cmp2, chain3, tst, notB, andB, orB, andD, orD, iteM, consM, starM, smallM, tupM, tupSM, lstM, argV, argK, comp1, comp1i, comp2, comp2i, comp11, seqM, rng1, rng2, zipSM, zip2M, zip3M, enumM, repM, joinM, catM, par3LM, put2M, popM, parLV, putVM, unpS, trg1M, sortSetM, orV, lrg1M, par3M, rdM, rdLM, partM, slcM, isiM, rtM, forM1, forM2, forM3, parM, unp2, unp3, unp2A, unp3A, unp4A, ob_pure, ob_some, ob_lift, Option.pure_def, add_int, sub_int, lt_int, le_int, gt_int, ge_int, eq_int, ne_int, min_int, max_int, neg_int, bool_bool, not_bool, is_none, isn_none, nn_int, nn_none, nn_tup, len_tup, len_lst, tup_lst, tup_tup, it_lst, it_tup, int_bool, int_int, oint_int, addI_int, subI_int, flat_tI, flat_int, flat_none, Option.bind_some, Option.map_some, Int.zero_add, thenB, thenM, List.nil_append, List.length_map, ob_assoc, es]
        refine bindE (small_ok (by rw [enumL_len, List.length_map, List.length_map]; omega)) ?_
        exact nonz_lc (m := Option) (S.map List.sum)
      · rw [List.set_set]
        exact Run.pure
end
theorem set_mid {ob : List Cell} {x y : Cell} {r : List Cell} : (ob ++ x :: r).set ob.length y = ob ++ y :: r := by
  rw [List.set_append_right _ _ (Nat.le_refl _), Nat.sub_self]
  rfl
theorem run_fld {f c : Str} {v : D} {fs : List (Str × D)} {ob r : List Cell} (hl : fs.length < 900) : Run (OverZ.up (setAZ c f (refD ob.length) v)) (ob ++ .ins c fs :: r) () (ob ++ .ins c (putL f v fs) :: r) := (run_setA at_mid hl).to set_mid
theorem okDs_map {γ : Type} {F : γ → D} (h : ∀ x, okD (F x) = true) : ∀ l : List γ, okDs (l.map F) = true
  | [] => rfl
  | x :: l => by
    show (okD (F x) && okDs (l.map F)) = true
    rw [h x, okDs_map h l]
    rfl
theorem depth_map {γ : Type} {F : γ → D} {n : Nat} (h : ∀ x, (F x).depth ≤ n) : ∀ l : List γ, PyData.depthAll (l.map F) ≤ n
  | [] => by simp [PyData.depthAll]
  | x :: l => by
    rw [List.map_cons]
    simp only [PyData.depthAll]
    exact Nat.max_le.mpr ⟨h x, depth_map h l⟩
/-! ### looking_number, next_drawer -/
theorem zero_all : ∀ {l : List Int}, (∀ x ∈ l, 0 ≤ x) → l.sum = 0 → ∀ x ∈ l, x = 0
  | [], _, _, _, h => nomatch h
  | y :: l, h, hs, x, hx => by
    have h1 := h y List.mem_cons_self
    have h2 : ∀ z ∈ l, 0 ≤ z := fun z hz => h z (List.mem_cons_of_mem _ hz)
    have h3 := sumz_ge0 h2
    rw [List.sum_cons] at hs
    rcases List.mem_cons.mp hx with rfl | hx
    · omega
    · exact zero_all h2 (by omega) x hx
theorem sum_zeros : ∀ {l : List Int}, (∀ x ∈ l, x = 0) → l.sum = 0
  | [], _ => rfl
  | y :: l, h => by rw [List.sum_cons, h y List.mem_cons_self, sum_zeros fun z hz => h z (List.mem_cons_of_mem _ hz)]; rfl
theorem cols_zero {k : Nat} {S : List (List Int)} (st : Stk 50 k S) (h : szS S = 0) : ∀ i, i < k → (col S i).sum = 0 := fun i hi => by
  have hs : (S.map List.sum).sum = 0 := by have := szS_eq st; omega
  refine sum_zeros fun x hx => ?_
  obtain ⟨r, hr, rfl⟩ := List.mem_map.mp hx
  have h1 := zero_all (size_ge st) hs _ (List.mem_map.mpr ⟨r, hr, rfl⟩)
  have h2 := zero_all (fun y hy => (st.ge r hr y hy).1) h1
  have hl := st.len r hr
  have e : r.getD i 0 = r[i]'(by omega) := by simp [List.getD_eq_getElem?_getD, show i < r.length by omega]
  rw [e]
  exact h2 _ (List.getElem_mem _)
theorem cnt_len {k : Nat} {T : List Int} {S : List (List Int)} (hT : T.length = k) : (cnt k T S).length = k := by simp [cnt, cols]; omega
theorem cnt_at {k i : Nat} {T : List Int} {S : List (List Int)} (hT : T.length = k) (hi : i < k) : (cnt k T S).getD i 0 = T.getD i 0 - (col S i).sum := by
  have h1 : i < (cnt k T S).length := by rw [cnt_len hT]; exact hi
  have e1 : (cnt k T S).getD i 0 = (cnt k T S)[i] := by simp [List.getD_eq_getElem?_getD, h1]
  have e2 : T.getD i 0 = T[i]'(by omega) := by simp [List.getD_eq_getElem?_getD, show i < T.length by omega]
  rw [e1, e2]
  simp [cnt, cols]
theorem ext_getD {l m : List Int} (h : l.length = m.length) (he : ∀ i, i < l.length → l.getD i 0 = m.getD i 0) : l = m := by
  refine List.ext_getElem h fun i h1 h2 => ?_
  have := he i h1
  simpa [List.getD_eq_getElem?_getD, h1, h2] using this
theorem cnt_zero {k : Nat} {T : List Int} {S : List (List Int)} (st : Stk 50 k S) (hT : T.length = k) (h : szS S = 0) : cnt k T S = T := ext_getD (by rw [cnt_len hT, hT]) fun i hi => by
  rw [cnt_len hT] at hi
  rw [cnt_at hT hi, cols_zero st h i hi]
  omega
theorem dn_zero {k : Nat} {C : List (List Int)} {T : List Int} (hT : T.length = k) (h : (fulf C T).isSome = true) : ∀ S, Stk 50 k S → szS S = 0 → dnS k C T S = true := fun S st hz => by
  unfold dnS
  rw [cnt_zero st hT hz]
  exact h
theorem few_eq {k : Nat} {S : List (List Int)} (st : Stk 50 k S) (h14 : szS S ≤ 14) : MX_need_few [.val (tT S)] = some (.ok .none) := by
  have f4 := st.four
  have es : M_sizes_of [.val (tT S)] = some (tI (S.map List.sum)) := sizes_eq (by omega)
  have hs := szS_eq st
  have hd : decide ((14 : Int) < (S.map List.sum).sum) = false := decide_eq_false (by omega)
  show mx_need_few (tT S) = _
  unfold mx_need_few
  have e1 : (cmp2 gtD (op1 sumD ((argV (Pure.pure (tT S)) (Pure.pure [])) >>= M_sizes_of)) (Pure.pure (.int 14)) : Option Bool) = some false := by
    simp only [op2, op1, cmp2, chain3, tst, notB, andB, orB, andD, orD, iteM, consM, starM, smallM, tupM, tupSM, lstM, argV, argK, comp1, comp1i, comp2, comp2i, comp11, seqM, rng1, rng2, zipSM, zip2M, zip3M, enumM, repM, joinM, catM, par3LM, put2M, popM, parLV, putVM, unpS, trg1M, sortSetM, orV, lrg1M, par3M, rdM, rdLM, partM, slcM, isiM, rtM, forM1, forM2, forM3, parM, unp2, unp3, unp2A, unp3A, unp4A, ob_pure, ob_some, ob_lift, Option.pure_def, add_int, sub_int, lt_int, le_int, gt_int, ge_int, eq_int, ne_int, min_int, max_int, neg_int, bool_bool, not_bool, is_none, isn_none, nn_int, nn_none, nn_tup, len_tup, len_lst, tup_lst, tup_tup, it_lst, it_tup, int_bool, int_int, oint_int, addI_int, subI_int, flat_tI, flat_int, flat_none, Option.bind_some, Option.map_some, Int.zero_add, thenB, thenM, List.nil_append, List.length_map, ob_assoc, es]
    rw [sum_tI]
    show (gtD (.int _) (.int 14)).bind boolD = _
    rw [gt_int, hd]
    rfl
  rw [e1]
  rfl
theorem run_iniK {ob : List Cell} {C : List (List Int)} {T : List Int} : Run (M_Search____init__ [.val (refD ob.length), .val (tT C), .val (tI T)]) (ob ++ [.ins "Search" []]) .none (ob ++ [serC C T (ob.length + 1), .dic []]) := by
  show Run (m_Search____init__ (refD ob.length) (tT C) (tI T)) _ _ _
  unfold m_Search____init__
  simp only [op2, op1, cmp2, chain3, tst, notB, andB, orB, andD, orD, iteM, consM, starM, smallM, tupM, tupSM, lstM, argV, argK, comp1, comp1i, comp2, comp2i, comp11, seqM, rng1, rng2, zipSM, zip2M, zip3M, enumM, repM, joinM, catM, par3LM, put2M, popM, parLV, putVM, unpS, trg1M, sortSetM, orV, lrg1M, par3M, rdM, rdLM, partM, slcM, isiM, rtM, forM1, forM2, forM3, parM, unp2, unp3, unp2A, unp3A, unp4A, zb_assoc, zb_pure, zl_some, zb_some, zx_assoc, zx_pure, zx_some, upz_pure, add_int, sub_int, lt_int, le_int, gt_int, ge_int, eq_int, ne_int, min_int, max_int, neg_int, bool_bool, not_bool, is_none, isn_none, nn_int, nn_none, nn_tup, len_tup, len_lst, tup_lst, tup_tup, it_lst, it_tup, int_bool, int_int, oint_int, addI_int, subI_int, flat_tI, flat_int, flat_none, Option.bind_some, Option.map_some, Int.zero_add, thenB, thenM, List.nil_append, List.length_map]
  refine Run.bind (run_fld (r := []) (by decide)) (Run.bind (run_fld (r := []) (show 1 < 900 by decide)) ?_)
  refine Run.bind (a := refD (ob.length + 1)) (ob1 := ob ++ [.ins "Search" [("needs", tT C), ("totals", tI T)], .dic []]) ?_ (Run.bind (run_fld (fs := [("needs", tT C), ("totals", tI T)]) (r := [.dic []]) (show 2 < 900 by decide)) Run.pure)
  intro n φ q
  show φ (refD (ob ++ [Cell.ins "Search" [("needs", tT C), ("totals", tI T)]]).length) _
  rw [List.length_append]
  have e : ob ++ [Cell.ins "Search" [("needs", tT C), ("totals", tI T)]] ++ [Cell.dic []] = ob ++ [.ins "Search" [("needs", tT C), ("totals", tI T)], .dic []] := by simp
  show φ _ ⟨n, ob ++ [Cell.ins "Search" [("needs", tT C), ("totals", tI T)]] ++ [Cell.dic []]⟩
  rw [e]
  exact q
/-- a search that just began -/
theorem ser_new {ob : List Cell} {C : List (List Int)} {T : List Int} {c : Cell} : (ob ++ [serC C T (ob.length + 1), c])[ob.length]? = some (serC C T (ob.length + 1)) ∧ (ob ++ [serC C T (ob.length + 1), .dic []]).set (ob.length + 1) c = ob ++ [serC C T (ob.length + 1), c] ∧ ob.length + 1 < (ob ++ [serC C T (ob.length + 1), c]).length := by
  refine ⟨at_mid, ?_, by simp⟩
  rw [List.set_append_right _ _ (by omega)]
  congr 1
  rw [show ob.length + 1 - ob.length = 1 by omega]
  rfl
/-! the next drawer -/
def addR (u v : List Int) : List Int := (u.zip v).map fun p => p.1 + p.2
theorem addR_len {k : Nat} {u v : List Int} (hu : u.length = k) (hv : v.length = k) : (addR u v).length = k := by simp [addR]; omega
theorem addR_at {k i : Nat} {u v : List Int} (hu : u.length = k) (hv : v.length = k) (hi : i < k) : (addR u v).getD i 0 = u.getD i 0 + v.getD i 0 := by
  have h1 : i < (addR u v).length := by rw [addR_len hu hv]; exact hi
  have e1 : (addR u v).getD i 0 = (addR u v)[i] := by simp [List.getD_eq_getElem?_getD, h1]
  have e2 : u.getD i 0 = u[i]'(by omega) := by simp [List.getD_eq_getElem?_getD, show i < u.length by omega]
  have e3 : v.getD i 0 = v[i]'(by omega) := by simp [List.getD_eq_getElem?_getD, show i < v.length by omega]
  rw [e1, e2, e3]
  simp [addR]
theorem cnt_add {k : Nat} {u : List Int} {S : List (List Int)} (hu : u.length = k) : cnt k (addR u (cols S k)) S = u := by
  have hc : (cols S k).length = k := by simp [cols]
  refine ext_getD (by rw [cnt_len (addR_len hu hc), hu]) fun i hi => ?_
  rw [cnt_len (addR_len hu hc)] at hi
  rw [cnt_at (addR_len hu hc) hi, addR_at hu hc hi]
  have e : (cols S k).getD i 0 = (col S i).sum := by simp [cols, List.getD_eq_getElem?_getD, hi]
  rw [e]
  omega
abbrev costP (c : Nat → Int) (d : Nat) : D := .tuple [.int (c d), .int (d : Nat)]
theorem costP_lt (c : Nat → Int) (d e : Nat) : PySem.W.dataLt (costP c d) (costP c e) = decide (c d < c e ∨ c d = c e ∧ d < e) := by
  rw [PySem.W.dataLt_pair (by simp [PySem.W.alike]) (by simp [PySem.W.alike])]
  simp only [PyData.eqv, PySem.W.dataLt_int]
  by_cases h : c d = c e
  · simp [h]
    omega
  · have : ¬ (c d == c e) = true := by simpa using h
    rw [if_neg this]
    simp [h]
theorem min_goP (c : Nat → Int) : ∀ (L : List Nat) (P : Nat), ∃ R ∈ P :: L, (L.map (costP c)).foldl (fun a y => if PySem.W.dataLt y a then y else a) (costP c P) = costP c R ∧ ∀ Q ∈ P :: L, c R < c Q ∨ c R = c Q ∧ R ≤ Q
  | [], P => ⟨P, by simp, rfl, fun Q hQ => by rw [List.mem_singleton.mp hQ]; exact .inr ⟨rfl, Nat.le_refl _⟩⟩
  | Q :: L, P => by
    rw [List.map_cons, List.foldl_cons, costP_lt]
    by_cases h : c Q < c P ∨ c Q = c P ∧ Q < P
    · rw [if_pos (decide_eq_true h)]
      obtain ⟨R, hR, e, hm⟩ := min_goP c L Q
      refine ⟨R, List.mem_cons_of_mem _ hR, e, fun X hX => ?_⟩
      rcases List.mem_cons.mp hX with rfl | hX
      · have := hm Q List.mem_cons_self
        omega
      · exact hm X hX
    · rw [if_neg (by rw [decide_eq_false h]; decide)]
      obtain ⟨R, hR, e, hm⟩ := min_goP c L P
      refine ⟨R, ?_, e, fun X hX => ?_⟩
      · rcases List.mem_cons.mp hR with rfl | hR
        · exact List.mem_cons_self
        · exact List.mem_cons_of_mem _ (List.mem_cons_of_mem _ hR)
      · rcases List.mem_cons.mp hX with rfl | hX
        · exact hm X List.mem_cons_self
        · rcases List.mem_cons.mp hX with rfl | hX
          · have := hm P List.mem_cons_self
            omega
          · exact hm X (List.mem_cons_of_mem _ hX)
theorem min_pairsP (c : Nat → Int) {L : List Nat} (h : L ≠ []) : ∃ R ∈ L, minAD (.list (L.map (costP c))) = some (costP c R) ∧ ∀ Q ∈ L, c R < c Q ∨ c R = c Q ∧ R ≤ Q := by
  cases L with
  | nil => exact absurd rfl h
  | cons P L =>
    obtain ⟨R, hR, e, hm⟩ := min_goP c L P
    refine ⟨R, hR, ?_, hm⟩
    have h1 : okDs ((P :: L).map (costP c)) = true := okDs_map (fun x => rfl) _
    have h2 : alikeB ((P :: L).map (costP c)) = true := by
      unfold alikeB
      rw [Bool.and_eq_true, List.all_eq_true, List.all_eq_true]
      refine ⟨fun x hx => List.all_eq_true.mpr fun y hy => ?_, fun x hx => ?_⟩
      · obtain ⟨a, _, rfl⟩ := List.mem_map.mp hx
        obtain ⟨b, _, rfl⟩ := List.mem_map.mp hy
        simp [PySem.W.alike, PySem.W.alikeAll]
      · obtain ⟨a, _, rfl⟩ := List.mem_map.mp hx
        rfl
    have h3 : PyData.depthAll ((P :: L).map (costP c)) ≤ 60 := depth_map (fun x => by simp [PyData.depth, PyData.depthAll]) _
    show (if (okDs ((P :: L).map (costP c)) && alikeB ((P :: L).map (costP c))) && decide (PyData.depthAll ((P :: L).map (costP c)) ≤ 60) then some _ else none) = _
    rw [h1, h2, decide_eq_true h3]
    exact congrArg some e
theorem run_next {k : Nat} {C S : List (List Int)} {u : List Int} (st : Stk 50 k S) (hC : ∀ r ∈ C, r.length = k) (hu : u.length = k) (h14 : szS S ≤ 14) (ob : List Cell) : ∃ l r, RunX (MX_next_drawer [.val (tT S), .val (tT C), .val (tI u)]) ob r (ob ++ l) ∧
    (((fulf C u).isSome = true ∨ (fulf C (addR u (cols S k))).isSome = false) → r = .none) ∧
    ((fulf C u).isSome = false → (fulf C (addR u (cols S k))).isSome = true → ∃ d ∈ nonz (S.map List.sum), r = .int (d : Nat) ∧ ∀ e ∈ nonz (S.map List.sum), gW (dnS k C (addR u (cols S k))) S d < gW (dnS k C (addR u (cols S k))) S e ∨ gW (dnS k C (addR u (cols S k))) S d = gW (dnS k C (addR u (cols S k))) S e ∧ d ≤ e) := by
  have k4 := st.k4
  have f4 := st.four
  have hcl : (cols S k).length = k := by simp [cols]
  have hal := addR_len hu hcl
  have e1 : M_totals_of [.val (tT S)] = some (tI (cols S k)) := totals_eq st.one st.four st.len (by omega)
  have es : M_sizes_of [.val (tT S)] = some (tI (S.map List.sum)) := sizes_eq (by omega)
  have eu : M_fulfilled_by [.val (tT C), .val (tI u)] = some (oN (fulf C u)) := fulf_eq (fun r hr => by rw [hC r hr, hu]; exact Nat.le_refl _) (by omega)
  have et : M_fulfilled_by [.val (tT C), .val (tI (addR u (cols S k)))] = some (oN (fulf C (addR u (cols S k)))) := fulf_eq (fun r hr => by rw [hC r hr, hal]; exact Nat.le_refl _) (by omega)
  have ez : zipD [tI u, tI (cols S k)] = some ((u.zip (cols S k)).map fun p => .tuple [.int p.1, .int p.2]) := zip_map (by rw [hcl]; omega)
  have ea : M_added [.val (tI u), .val (tI (cols S k))] = some (tI (addR u (cols S k))) := by
    show m_added (tI u) (tI (cols S k)) = _
    unfold m_added
    simp only [op2, op1, cmp2, chain3, tst, notB, andB, orB, andD, orD, iteM, consM, starM, smallM, tupM, tupSM, lstM, argV, argK, comp1, comp1i, comp2, comp2i, comp11, seqM, rng1, rng2, zipSM, zip2M, zip3M, enumM, repM, joinM, catM, par3LM, put2M, popM, parLV, putVM, unpS, trg1M, sortSetM, orV, lrg1M, par3M, rdM, rdLM, partM, slcM, isiM, rtM, forM1, forM2, forM3, parM, unp2, unp3, unp2A, unp3A, unp4A, ob_pure, ob_some, ob_lift, Option.pure_def, add_int, sub_int, lt_int, le_int, gt_int, ge_int, eq_int, ne_int, min_int, max_int, neg_int, bool_bool, not_bool, is_none, isn_none, nn_int, nn_none, nn_tup, len_tup, len_lst, tup_lst, tup_tup, it_lst, it_tup, int_bool, int_int, oint_int, addI_int, subI_int, flat_tI, flat_int, flat_none, Option.bind_some, Option.map_some, Int.zero_add, thenB, thenM, List.nil_append, List.length_map, ob_assoc, ez]
    refine bindE (small_ok (by rw [List.length_map, List.length_zip]; omega)) ?_
    refine bindE (lcA_map2 (m := Option) (Ga := fun p : Int × Int => .int p.1) (Gb := fun p => .int p.2) (G := fun p => .int (p.1 + p.2)) (fun _ => rfl) (u.zip (cols S k)) [] fun p hp => rfl) ?_
    unfold addR
    rw [List.nil_append]
    show some (PyData.tuple _) = some (PyData.tuple _)
    rw [List.map_map]
    rfl
  have oS := okH_tT S
  have oC := okH_tT C
  have oU := okH_tI u
  have oT := okH_tI (addR u (cols S k))
  have pre : ∀ {r : D} {o' : List Cell} {y : ZX D}, RunX y ob r o' → RunX (hidX [.val (tT S)] (MX_need_few [.val (tT S)]) >>= fun _ => y) ob r o' := fun h => RunX.bind (RunX.hid (by simp_all [okSl]) (few_eq st h14)) h
  by_cases hc : (fulf C u).isSome = true ∨ (fulf C (addR u (cols S k))).isSome = false
  · refine ⟨[], .none, ?_, fun _ => rfl, fun h1 h2 => by rcases hc with h | h <;> simp_all⟩
    rw [List.append_nil]
    show RunX (mx_next_drawer (tT S) (tT C) (tI u)) _ _ _
    unfold mx_next_drawer
    simp only [op2, op1, cmp2, chain3, tst, notB, andB, orB, andD, orD, iteM, consM, starM, smallM, tupM, tupSM, lstM, argV, argK, comp1, comp1i, comp2, comp2i, comp11, seqM, rng1, rng2, zipSM, zip2M, zip3M, enumM, repM, joinM, catM, par3LM, put2M, popM, parLV, putVM, unpS, trg1M, sortSetM, orV, lrg1M, par3M, rdM, rdLM, partM, slcM, isiM, rtM, forM1, forM2, forM3, parM, unp2, unp3, unp2A, unp3A, unp4A, zb_assoc, zb_pure, zl_some, zb_some, zx_assoc, zx_pure, zx_some, upz_pure, add_int, sub_int, lt_int, le_int, gt_int, ge_int, eq_int, ne_int, min_int, max_int, neg_int, bool_bool, not_bool, is_none, isn_none, nn_int, nn_none, nn_tup, len_tup, len_lst, tup_lst, tup_tup, it_lst, it_tup, int_bool, int_int, oint_int, addI_int, subI_int, flat_tI, flat_int, flat_none, Option.bind_some, Option.map_some, Int.zero_add, thenB, thenM, List.nil_append, List.length_map]
    refine pre (RunX.bU (Run.hid (a := tI (addR u (cols S k))) (by simp_all [okSl]) (by simp only [op2, op1, cmp2, chain3, tst, notB, andB, orB, andD, orD, iteM, consM, starM, smallM, tupM, tupSM, lstM, argV, argK, comp1, comp1i, comp2, comp2i, comp11, seqM, rng1, rng2, zipSM, zip2M, zip3M, enumM, repM, joinM, catM, par3LM, put2M, popM, parLV, putVM, unpS, trg1M, sortSetM, orV, lrg1M, par3M, rdM, rdLM, partM, slcM, isiM, rtM, forM1, forM2, forM3, parM, unp2, unp3, unp2A, unp3A, unp4A, ob_pure, ob_some, ob_lift, Option.pure_def, add_int, sub_int, lt_int, le_int, gt_int, ge_int, eq_int, ne_int, min_int, max_int, neg_int, bool_bool, not_bool, is_none, isn_none, nn_int, nn_none, nn_tup, len_tup, len_lst, tup_lst, tup_tup, it_lst, it_tup, int_bool, int_int, oint_int, addI_int, subI_int, flat_tI, flat_int, flat_none, Option.bind_some, Option.map_some, Int.zero_add, thenB, thenM, List.nil_append, List.length_map, ob_assoc, e1, ea])) (RunX.bU (a := true) (Run.hid (by simp_all [okSl]) ?_) (runx_ifT rfl RunX.pure)))
    simp only [op2, op1, cmp2, chain3, tst, notB, andB, orB, andD, orD, iteM, consM, starM, smallM, tupM, tupSM, lstM, argV, argK, comp1, comp1i, comp2, comp2i, comp11, seqM, rng1, rng2, zipSM, zip2M, zip3M, enumM, repM, joinM, catM, par3LM, put2M, popM, parLV, putVM, unpS, trg1M, sortSetM, orV, lrg1M, par3M, rdM, rdLM, partM, slcM, isiM, rtM, forM1, forM2, forM3, parM, unp2, unp3, unp2A, unp3A, unp4A, ob_pure, ob_some, ob_lift, Option.pure_def, add_int, sub_int, lt_int, le_int, gt_int, ge_int, eq_int, ne_int, min_int, max_int, neg_int, bool_bool, not_bool, is_none, isn_none, nn_int, nn_none, nn_tup, len_tup, len_lst, tup_lst, tup_tup, it_lst, it_tup, int_bool, int_int, oint_int, addI_int, subI_int, flat_tI, flat_int, flat_none, Option.bind_some, Option.map_some, Int.zero_add, thenB, thenM, List.nil_append, List.length_map, ob_assoc, eu, et, isN_oN, Bool.not_not]
    rcases hc with h | h
    · rw [h]; rfl
    · rw [h]
      cases (fulf C u).isSome <;> rfl
  · have hc1 : (fulf C u).isSome = false := by cases h : (fulf C u).isSome <;> simp_all
    have hc2 : (fulf C (addR u (cols S k))).isSome = true := by cases h : (fulf C (addR u (cols S k))).isSome <;> simp_all
    have hdn : dnS k C (addR u (cols S k)) S = false := by unfold dnS; rw [cnt_add hu]; exact hc1
    have hd0 := dn_zero hal hc2
    have hpos : 0 < szS S := by
      refine Nat.pos_of_ne_zero fun z => ?_
      rw [hd0 S st z] at hdn
      cases hdn
    have hsum : 0 < (S.map List.sum).sum := by have := szS_eq st; omega
    have hne := nonz_ne hsum
    have hnl : (nonz (S.map List.sum)).length ≤ 4 := by
      have : (nonz (S.map List.sum)).length ≤ (List.range (S.map List.sum).length).length := List.length_filter_le _ _
      rw [List.length_range, List.length_map] at this
      omega
    obtain ⟨d, hd, hmin, hbest⟩ := min_pairsP (gW (dnS k C (addR u (cols S k))) S) hne
    obtain ⟨n1, n2, n3⟩ := ser_new (ob := ob) (C := C) (T := addR u (cols S k)) (c := .dic [])
    obtain ⟨kvs', hr, _⟩ := run_lcS (o := ob ++ [serC C (addR u (cols S k)) (ob.length + 1), .dic []]) (kd := ob.length + 1) (S0 := S) (dn := dnS k C (addR u (cols S k))) (f := fun d => OverZ.up (selfZ "Search" "worst" (refD ob.length)) >>= fun _ => M_Search__worst [.val (refD ob.length), .val (tT S), .val d] >>= fun a => (Pure.pure (PyData.tuple [a, d]) : Z D)) (F := fun j : Nat => PyData.int (j : Nat)) (G := costP (gW (dnS k C (addR u (cols S k))) S)) (nonz (S.map List.sum)) [] [] Kn.nil fun d hd kvs hk => by
      obtain ⟨hdl, _, hn⟩ := full_mem st hd
      obtain ⟨kvs', hr, hk'⟩ := run_worst (S0 := S) (FF := M_Search__further) n1 (by omega) st hd (fun j hj kvs hk => by
        obtain ⟨hjk, hp⟩ := kind_mem st hdl hj
        have hz := sz_take st hdl hjk hp
        exact run_further n1 (by omega) n3 st h14 hC hal hd0 16 (take_stk st hdl hjk hp) (leS_take st (leS_refl st) hdl hjk hp) (by omega) kvs hk) hk
      exact ⟨kvs', Run.bind (run_self (at_ins n1 (by omega)) (by kernel_rfl)) (Run.bind hr Run.pure), hk'⟩
    rw [n2, (ser_new (ob := ob) (C := C) (T := addR u (cols S k)) (c := .dic kvs')).2.1] at hr
    refine ⟨[serC C (addR u (cols S k)) (ob.length + 1), .dic kvs'], .int (d : Nat), ?_, fun h => absurd h hc, fun _ _ => ⟨d, hd, rfl, hbest⟩⟩
    show RunX (mx_next_drawer (tT S) (tT C) (tI u)) _ _ _
    unfold mx_next_drawer
    simp only [op2, op1, cmp2, chain3, tst, notB, andB, orB, andD, orD, iteM, consM, starM, smallM, tupM, tupSM, lstM, argV, argK, comp1, comp1i, comp2, comp2i, comp11, seqM, rng1, rng2, zipSM, zip2M, zip3M, enumM, repM, joinM, catM, par3LM, put2M, popM, parLV, putVM, unpS, trg1M, sortSetM, orV, lrg1M, par3M, rdM, rdLM, partM, slcM, isiM, rtM, forM1, forM2, forM3, parM, unp2, unp3, unp2A, unp3A, unp4A, zb_assoc, zb_pure, zl_some, zb_some, zx_assoc, zx_pure, zx_some, upz_pure, add_int, sub_int, lt_int, le_int, gt_int, ge_int, eq_int, ne_int, min_int, max_int, neg_int, bool_bool, not_bool, is_none, isn_none, nn_int, nn_none, nn_tup, len_tup, len_lst, tup_lst, tup_tup, it_lst, it_tup, int_bool, int_int, oint_int, addI_int, subI_int, flat_tI, flat_int, flat_none, Option.bind_some, Option.map_some, Int.zero_add, thenB, thenM, List.nil_append, List.length_map]
    refine pre (RunX.bU (Run.hid (a := tI (addR u (cols S k))) (by simp_all [okSl]) (by simp only [op2, op1, cmp2, chain3, tst, notB, andB, orB, andD, orD, iteM, consM, starM, smallM, tupM, tupSM, lstM, argV, argK, comp1, comp1i, comp2, comp2i, comp11, seqM, rng1, rng2, zipSM, zip2M, zip3M, enumM, repM, joinM, catM, par3LM, put2M, popM, parLV, putVM, unpS, trg1M, sortSetM, orV, lrg1M, par3M, rdM, rdLM, partM, slcM, isiM, rtM, forM1, forM2, forM3, parM, unp2, unp3, unp2A, unp3A, unp4A, ob_pure, ob_some, ob_lift, Option.pure_def, add_int, sub_int, lt_int, le_int, gt_int, ge_int, eq_int, ne_int, min_int, max_int, neg_int, bool_bool, not_bool, is_none, isn_none, nn_int, nn_none, nn_tup, len_tup, len_lst, tup_lst, tup_tup, it_lst, it_tup, int_bool, int_int, oint_int, addI_int, subI_int, flat_tI, flat_int, flat_none, Option.bind_some, Option.map_some, Int.zero_add, thenB, thenM, List.nil_append, List.length_map, ob_assoc, e1, ea])) (RunX.bU (a := false) (Run.hid (by simp_all [okSl]) ?_) (runx_ifF (by decide) ?_)))
    · simp only [op2, op1, cmp2, chain3, tst, notB, andB, orB, andD, orD, iteM, consM, starM, smallM, tupM, tupSM, lstM, argV, argK, comp1, comp1i, comp2, comp2i, comp11, seqM, rng1, rng2, zipSM, zip2M, zip3M, enumM, repM, joinM, catM, par3LM, put2M, popM, parLV, putVM, unpS, trg1M, sortSetM, orV, lrg1M, par3M, rdM, rdLM, partM, slcM, isiM, rtM, forM1, forM2, forM3, parM, unp2, unp3, unp2A, unp3A, unp4A, ob_pure, ob_some, ob_lift, Option.pure_def, add_int, sub_int, lt_int, le_int, gt_int, ge_int, eq_int, ne_int, min_int, max_int, neg_int, bool_bool, not_bool, is_none, isn_none, nn_int, nn_none, nn_tup, len_tup, len_lst, tup_lst, tup_tup, it_lst, it_tup, int_bool, int_int, oint_int, addI_int, subI_int, flat_tI, flat_int, flat_none, Option.bind_some, Option.map_some, Int.zero_add, thenB, thenM, List.nil_append, List.length_map, ob_assoc, eu, et, isN_oN, Bool.not_not, hc1, hc2]
      rfl
    · refine RunX.bU (Run.bind run_newI (Run.bind run_iniK (Run.bL rfl Run.pure))) (RunX.bU (a := (nonz (S.map List.sum)).map fun j : Nat => PyData.int (j : Nat)) (Run.hid (by simp_all [okSl]) ?_) (Run.rx (Run.bL (small_ok (by rw [List.length_map]; omega)) (Run.bind hr (Run.bL hmin (run_ixD (fun _ h => by cases h) rfl))))))
      simp only [op2, op1, cmp2, chain3, tst, notB, andB, orB, andD, orD, iteM, consM, starM, smallM, tupM, tupSM, lstM, argV, argK, comp1, comp1i, comp2, comp2i, comp11, seqM, rng1, rng2, zipSM, zip2M, zip3M, enumM, repM, joinM, catM, par3LM, put2M, popM, parLV, putVM, unpS, trg1M, sortSetM, orV, lrg1M, par3M, rdM, rdLM, partM, slcM, isiM, rtM, forM1, forM2, forM3, parM, unp2, unp3, unp2A, unp3A, unp4A, ob_pure, ob_some, ob_lift, Option.pure_def, add_int, sub_int, lt_int, le_int, gt_int, ge_int, eq_int, ne_int, min_int, max_int, neg_int, bool_bool, not_bool, is_none, isn_none, nn_int, nn_none, nn_tup, len_tup, len_lst, tup_lst, tup_tup, it_lst, it_tup, int_bool, int_int, oint_int, addI_int, subI_int, flat_tI, flat_int, flat_none, Option.bind_some, Option.map_some, Int.zero_add, thenB, thenM, List.nil_append, List.length_map, ob_assoc, es]
      exact bindE (small_ok (by rw [enumL_len, List.length_map, List.length_map]; omega)) (nonz_lc (m := Option) (S.map List.sum))
theorem TrZ.bindP {α β : Type} {c : Nat} {g' : List Sl} {o : Option α} {a : α} {f : α → Z β} {χ : β → Prop} (hs : okSl g' = true) (e : o = some a) (h : TrZ c (f a) χ) : TrZ c (OverZ.up (hidP g' o) >>= f) χ := fun d E n ψ hn q => ⟨hs, rfl, a, e, h d E n ψ hn q⟩
theorem at_mem {l : List Int} {i : Nat} (h : i < l.length) : l.getD i 0 ∈ l := by
  rw [List.getD_eq_getElem?_getD, List.getElem?_eq_getElem h]
  exact List.getElem_mem h
theorem sum_zero : ∀ (p : List Int), (∀ i, i < p.length → p.getD i 0 ≤ 0) → p.sum ≤ 0
  | [], _ => by simp
  | x :: p, h => by
    have h1 := h 0 (by simp)
    have h2 := sum_zero p fun i hi => by
      have := h (i + 1) (by simpa using hi)
      simpa using this
    rw [List.sum_cons]
    simp at h1
    omega
theorem set_sum1 : ∀ (p : List Int) (d : Nat) (v : Int), d < p.length → (p.set d v).sum = p.sum - p.getD d 0 + v
  | [], _, _, h => by simp at h
  | x :: p, 0, v, _ => by simp; omega
  | x :: p, d + 1, v, h => by
    have := set_sum1 p d v (by simpa using h)
    simp at this ⊢
    omega
/-! ### the next drawn number -/
theorem next_at {k : Int} (h0 : 0 < k) (h1 : k < 1073741824) {d : Nat} {E : List Cell} {n : Wd} {ψ : D → Wd → Prop} (hn : DkZ (1 + d) E n) (q : ∀ (r : Int) (n' : Wd), 0 ≤ r → r < k → DkZ d E n' → ψ (.int r) n') : m__law_next (refL 0) (.int k) n ψ := by
  obtain ⟨c, cs, rs, e, hl, l0, l1, hr, c0, c1⟩ := hn
  have eb0 : n.ob[0]? = some (.lst [refL 1, .int c, refL 2]) := by rw [e]; rfl
  have eb1 : n.ob[1]? = some (.lst (cs.map .int)) := by rw [e]; rfl
  have hm : c % (cs.length : Int) = ((c % (cs.length : Int)).toNat : Nat) := by
    have := Int.emod_nonneg c (show (cs.length : Int) ≠ 0 by omega)
    omega
  have hlt : (c % (cs.length : Int)).toNat < cs.length := by
    have := Int.emod_lt_of_pos c (show (0 : Int) < (cs.length : Int) by omega)
    omega
  generalize (c % (cs.length : Int)).toNat = i at hm hlt
  have e1 : (⟨n.n, n.ob.set 0 (.lst [refL 1, .int (c + 1), refL 2])⟩ : Wd).ob = deck3 (c + 1) cs rs ++ E := by
    show n.ob.set 0 _ = _
    rw [e]
    rfl
  have dk1 : DkZ d E ⟨n.n, n.ob.set 0 (.lst [refL 1, .int (c + 1), refL 2])⟩ := ⟨c + 1, cs, rs, e1, hl, l0, l1, hr, by omega, by omega⟩
  generalize hn1 : (⟨n.n, n.ob.set 0 (.lst [refL 1, .int (c + 1), refL 2])⟩ : Wd) = n1 at e1 dk1
  have eb2 : n1.ob[2]? = some (.lst (rs.map .int)) := by rw [e1]; rfl
  have eb3 : n1.ob[1]? = some (.lst (cs.map .int)) := by rw [e1]; rfl
  unfold m__law_next
  simp only [op2, op1, cmp2, chain3, tst, notB, andB, orB, andD, orD, iteM, consM, starM, smallM, tupM, tupSM, lstM, argV, argK, comp1, comp1i, comp2, comp2i, comp11, seqM, rng1, rng2, zipSM, zip2M, zip3M, enumM, repM, joinM, catM, par3LM, put2M, popM, parLV, putVM, unpS, trg1M, sortSetM, orV, lrg1M, par3M, rdM, rdLM, partM, slcM, isiM, rtM, forM1, forM2, forM3, parM, unp2, unp3, unp2A, unp3A, unp4A, zb_assoc, zb_pure]
  refine zTrip eb0 (zLen eb1 (zL (a := .int (i : Nat)) ?_ (zL (add_int _ _) (zSet eb0 (es := [refL 1, .int (c + 1), refL 2]) rfl ?_))))
  · rw [List.length_map, mod_int (by omega), hm]
  rw [hn1]
  refine zIx eb2 (at_intL (by omega)) (zL (a := decide (0 < rs.getD i 0)) (by rw [gt_int]; rfl) ?_)
  by_cases hp : 0 < rs.getD i 0
  · rw [if_pos (by rw [decide_eq_true_eq]; exact hp)]
    refine zIx eb2 (at_intL (by omega)) (zL (mod_int h0) (zIx eb2 (at_intL (by omega)) (zL (div_int h0 h1) (zSet eb2 (es := (rs.set i (rs.getD i 0 / k)).map .int) ?_ ?_))))
    · rw [put_at (by rw [List.length_map]; omega), List.map_set]
    · refine q _ _ (Int.emod_nonneg _ (by omega)) (Int.emod_lt_of_pos _ h0) ⟨c + 1, cs, rs.set i (rs.getD i 0 / k), ?_, by rw [List.length_set]; exact hl, l0, l1, fun r hrm => ?_, by omega, by omega⟩
      · show n1.ob.set 2 _ = _
        rw [e1]
        rfl
      · rcases List.mem_or_eq_of_mem_set hrm with h | h
        · exact hr r h
        · rw [h]
          exact Int.ediv_nonneg (Int.le_of_lt hp) (Int.le_of_lt h0)
  · rw [if_neg (by rw [decide_eq_true_eq]; exact hp)]
    refine zIx eb3 (at_intL (by omega)) ?_
    have a1 := Int.emod_nonneg (cs.getD i 0) (show (2147483647 : Int) ≠ 0 by decide)
    have a2 := Int.emod_lt_of_pos (cs.getD i 0) (show (0 : Int) < 2147483647 by decide)
    have pw : ∀ x : Int, 0 ≤ x → x < 2 ^ 63 → powD (.int x) (.int 3) = some (.int (x ^ 3)) := fun x x0 x1 => by
      show (if (0 : Int) ≤ 3 ∧ (3 : Int) ≤ 1000000 ∧ x.natAbs < 2 ^ 64 then some (PyData.int (x ^ (3 : Int).toNat)) else none) = _
      rw [if_pos ⟨by decide, by decide, by omega⟩]
      rfl
    refine zL (mod_int (by decide)) (zL (mul_int (.inl (by decide))) (zL (add_int _ _) (zL (add_int _ _) (zL (pw _ (by omega) (by omega)) (zL (mod_int (by decide)) ?_)))))
    generalize hx : ((cs.getD i 0 % 2147483647 + 69621 * c + 30269) ^ 3 % 2147483629 : Int) = x
    have x0 : 0 ≤ x := by rw [← hx]; exact Int.emod_nonneg _ (by decide)
    have x1 : x < 2147483629 := by rw [← hx]; exact Int.emod_lt_of_pos _ (by decide)
    have c24 : c ≤ 16777216 := by omega
    have cc0 : 0 ≤ 6007 * c * c := Int.mul_nonneg (by omega) c0
    have cc1 : 6007 * c * c ≤ 6007 * 16777216 * 16777216 := Int.mul_le_mul (by omega) c24 c0 (by decide)
    refine zL (mul_int (.inl (by decide))) (zL (mul_int (.inl ⟨by omega, by omega⟩)) (zL (add_int _ _) (zL (add_int _ _) (zL (pw _ (by omega) (by omega)) (zL (mod_int (by decide)) ?_)))))
    generalize ((x + 6007 * c * c + 17) ^ 3 % 2147483587 : Int) = y
    refine zL (mul_int (.inr (by decide))) (zL (add_int _ _) (zL (mod_int (by decide)) ?_))
    exact ⟨_, mod_int h0, q _ _ (Int.emod_nonneg _ (by omega)) (Int.emod_lt_of_pos _ h0) dk1⟩
theorem TrZ.draw {k : Int} (h0 : 0 < k) (h1 : k < 1073741824) : TrZ 1 (M__law_next [.val (refL 0), .val (.int k)]) (fun d => ∃ r : Int, d = .int r ∧ 0 ≤ r ∧ r < k) := fun d E n ψ hn q => by
  refine next_at h0 h1 hn fun r n' r0 r1 hn' => q _ [] n' (by rw [List.append_nil]; exact hn') ⟨r, rfl, r0, r1⟩
theorem TrZ.dr {β : Type} {d : Nat} {k : Int} {f : D → Z β} {χ : β → Prop} (h0 : 0 < k) (h1 : k < 1073741824) (hf : ∀ r : Int, 0 ≤ r → r < k → TrZ (d - 1) (f (.int r)) χ) (hd : 1 ≤ d := by decide) : TrZ d (M__law_next [.val (refL 0), .val (.int k)] >>= f) χ :=
  (TrZ.draw h0 h1).st (fun a ⟨r, e, r0, r1⟩ => e ▸ hf r r0 r1) hd
theorem ints_exZ {P : Int → Prop} : ∀ {es : List D}, (∀ e ∈ es, ∃ x, e = .int x ∧ P x) → ∃ xs : List Int, es = xs.map .int ∧ ∀ x ∈ xs, P x
  | [], _ => ⟨[], rfl, fun _ h => by cases h⟩
  | e :: es, h => by
    obtain ⟨x, rfl, hx⟩ := h e List.mem_cons_self
    obtain ⟨xs, rfl, hxs⟩ := ints_exZ fun e he => h e (List.mem_cons_of_mem _ he)
    exact ⟨x :: xs, rfl, fun y hy => (List.mem_cons.mp hy).elim (fun z => z ▸ hx) (hxs y)⟩
theorem all_at {α β : Type} {P : β → Prop} {ds : List α} {es : List β} (hl : es.length = ds.length) (h : ∀ (i : Nat) (d : α) (e : β), ds[i]? = some d → es[i]? = some e → P e) : ∀ e ∈ es, P e := fun e he => by
  obtain ⟨i, hi, rfl⟩ := List.mem_iff_getElem.mp he
  exact h i ds[i] es[i] (List.getElem?_eq_getElem (by omega)) (List.getElem?_eq_getElem hi)
theorem put_intI {l : List Int} {i : Int} {v : Int} (h0 : 0 ≤ i) (h : i < l.length) : putD (l.map PyData.int) (.int i) (.int v) = some ((l.set i.toNat v).map .int) := by
  have e : i = (i.toNat : Nat) := by omega
  rw [e, put_at (by rw [List.length_map]; omega), List.map_set]
  rfl
theorem five_at {r : Int} (h0 : 0 ≤ r) (h1 : r < 5) : ∃ t : Nat, DD.getD (.list [.int 1, .int 1, .int 2, .int 3, .int 4]) (.int r) = some (.int (t : Nat)) ∧ 1 ≤ t ∧ t ≤ 4 := by
  have : r = 0 ∨ r = 1 ∨ r = 2 ∨ r = 3 ∨ r = 4 := by omega
  rcases this with rfl | rfl | rfl | rfl | rfl
  · exact ⟨1, rfl, by decide, by decide⟩
  · exact ⟨1, rfl, by decide, by decide⟩
  · exact ⟨2, rfl, by decide, by decide⟩
  · exact ⟨3, rfl, by decide, by decide⟩
  · exact ⟨4, rfl, by decide, by decide⟩
theorem wished_ok {k : Nat} {m : Int} (k1 : 1 ≤ k) (k4 : k ≤ 4) (m1 : 1 ≤ m) (m2 : m ≤ 1000) : TrZ 40 (m__law_wished (refL 0) (.int (k : Nat)) (.int m)) (fun d => ∃ rows, d = tT rows ∧ Wishes k m rows) := by
  unfold m__law_wished
  simp only [op2, op1, cmp2, chain3, tst, notB, andB, orB, andD, orD, iteM, consM, starM, smallM, tupM, tupSM, lstM, argV, argK, comp1, comp1i, comp2, comp2i, comp11, seqM, rng1, rng2, zipSM, zip2M, zip3M, enumM, repM, joinM, catM, par3LM, put2M, popM, parLV, putVM, unpS, trg1M, sortSetM, orV, lrg1M, par3M, rdM, rdLM, partM, slcM, isiM, rtM, forM1, forM2, forM3, parM, unp2, unp3, unp2A, unp3A, unp4A, zb_assoc, zb_pure]
  refine TrZ.dr (by decide) (by decide) fun r r0 r1 => ?_
  obtain ⟨t, et, t1, t4⟩ := five_at r0 r1
  refine TrZ.bindL et (TrZ.bindL (range1_ok (by omega) (by omega)) ?_)
  rw [Int.toNat_natCast]
  refine TrZ.thM (b := 4 * 9) ((TrZ.loopR (c := 9) (I := fun i a => ∃ rows : List (List Int), a = rows.map tI ∧ rows.length = i ∧ ∀ r ∈ rows, good k m r) (R := fun _ => False) ⟨[], rfl, rfl, fun _ h => by cases h⟩ fun i a hi ⟨rows, ea, hlen, hg⟩ => ?hb).le (Nat.mul_le_mul_right 9 t4)) (fun a ⟨rows, ea, hlen, hg⟩ => ?hc)
  case hc =>
    subst ea
    refine TrZ.li (tup_lst _) ⟨rows, rfl, by omega, by omega, fun r hr => (hg r hr).1, fun r hr => (hg r hr).2.1, fun r hr => (hg r hr).2.2⟩
  case hb =>
    subst ea
    refine TrZ.bindL (range1_ok (by omega) (by omega)) (TrZ.bindL (small_ok (by rw [rangeL_length]; omega)) ?_)
    refine TrZ.st (b := 4 * 2) ((TrZ.comp (c := 2) (P := fun _ e => ∃ x : Int, e = .int x ∧ 0 ≤ x ∧ x ≤ m) (rangeL 0 ((k : Nat) : Int).toNat) [] fun d _ => ?hd).le (by rw [rangeL_length]; omega)) ?he
    case hd =>
      refine TrZ.bindL (add_int _ _) (TrZ.dr (by omega) (by omega) fun x x0 x1 => TrZ.dr (by decide) (by decide) fun y y0 y1 => ?_)
      have : y = 0 ∨ y = 1 := by omega
      refine TrZ.li (mul_int (.inr ⟨by omega, by omega⟩)) ⟨x * y, rfl, ?_⟩
      rcases this with rfl | rfl <;> omega
    case he =>
      rintro _ ⟨es, rfl, hl, hes⟩
      rw [rangeL_length, Int.toNat_natCast] at hl
      obtain ⟨xs, rfl, hxs⟩ := ints_exZ (all_at (ds := rangeL 0 k) (by rw [rangeL_length]; exact hl) hes)
      have hxl : xs.length = k := by simpa using hl
      have hx0 : 0 ≤ xs.sum := (sum_in xs hxs).1
      refine TrZ.bindP (a := xs.sum == 0) (by
        first
          | (show (okDs (xs.map PyData.int) && true) = true; rw [okDs_ints]; rfl)
          | (show (okHs (xs.map PyData.int) && true) = true; rw [show okHs (xs.map PyData.int) = true from okH_tI xs]; rfl)) (by
        show (sumD (.list (xs.map PyData.int)) >>= fun dx => (eqD dx (.int 0)).bind boolD) = _
        rw [sum_lI, ob_some, eq_int]
        rfl) ?_
      refine TrZ.thB (b := 1) (I := fun a => ∃ ys : List Int, a = ys.map .int ∧ good k m ys) (TrZ.ite (fun h => ?h1) fun h => ?h2) fun a ⟨ys, ea, hg2⟩ => ?h3
      case h1 =>
        refine TrZ.dr (by omega) (by omega) fun j j0 j1 => TrZ.bindL (put_intI j0 (by omega)) ?_
        refine TrZ.nx ⟨xs.set j.toNat 1, rfl, by rw [List.length_set]; exact hxl, fun x hx => ?_, 1, ?_, by decide⟩
        · rcases List.mem_or_eq_of_mem_set hx with z | z
          · exact hxs x z
          · omega
        · exact List.mem_iff_getElem.mpr ⟨j.toNat, by rw [List.length_set]; omega, by simp⟩
      case h2 =>
        refine TrZ.nx ⟨xs, rfl, hxl, hxs, ?_⟩
        apply Classical.byContradiction
        intro hc
        have : ∀ i, i < xs.length → xs.getD i 0 ≤ 0 := fun i hi => by
          have := fun z => hc ⟨_, at_mem hi, z⟩
          exact Int.not_lt.mp this
        have := sum_zero xs this
        have h : (xs.sum == 0) = false := h
        rw [beq_eq_false_iff_ne] at h
        omega
      case h3 =>
        subst ea
        refine TrZ.bindL (tup_lst _) (TrZ.bindL (fits_ok (by rw [List.length_map]; omega)) ?_)
        refine TrZ.nx ⟨rows ++ [ys], by simp, by simp [hlen], fun r hr => ?_⟩
        rcases List.mem_append.mp hr with z | z
        · exact hg r z
        · rw [List.mem_singleton.mp z]
          exact hg2
/-! ### a drawn stock: rows as cells -/
abbrev RowsC (rows : List (List Int)) : List Cell := rows.map fun r => Cell.lst (r.map PyData.int)
structure Shp (w k : Nat) (T : Int) (rows : List (List Int)) : Prop where
  len : rows.length = w
  row : ∀ r ∈ rows, r.length = k
  ge : ∀ r ∈ rows, ∀ x ∈ r, 0 ≤ x ∧ x ≤ T
  sum : (rows.map List.sum).sum = T
theorem newRows {Z0 : List D} : ∀ (ds acc : List D) (n : Wd) (ψ : List D → Wd → Prop), ψ (acc ++ (List.range ds.length).map fun i => refL (n.ob.length + i)) ⟨n.n, n.ob ++ List.replicate ds.length (.lst Z0)⟩ → lcA (fun _ => someM (newZ Z0)) ds acc n ψ
  | [], acc, n, ψ, h => by
    have e : (⟨n.n, n.ob ++ List.replicate 0 (.lst Z0)⟩ : Wd) = n := by simp
    have h : ψ (acc ++ []) ⟨n.n, n.ob ++ List.replicate 0 (.lst Z0)⟩ := h
    rw [List.append_nil, e] at h
    exact h
  | d :: ds, acc, n, ψ, h => by
    show lcA (fun _ => someM (newZ Z0)) ds (acc ++ [refL n.ob.length]) ⟨n.n, n.ob ++ [.lst Z0]⟩ ψ
    refine newRows ds _ _ _ ?_
    have e1 : (acc ++ [refL n.ob.length]) ++ ((List.range ds.length).map fun i => refL ((n.ob ++ [Cell.lst Z0]).length + i)) = acc ++ (List.range (d :: ds).length).map fun i => refL (n.ob.length + i) := by
      rw [List.length_cons, List.range_succ_eq_map, List.map_cons, List.map_map, List.append_assoc]
      congr 1
      show refL n.ob.length :: _ = refL (n.ob.length + 0) :: _
      congr 1
      refine List.map_congr_left fun i _ => ?_
      show refL _ = refL _
      congr 1
      simp
      omega
    have e2 : (n.ob ++ [Cell.lst Z0]) ++ List.replicate ds.length (Cell.lst Z0) = n.ob ++ List.replicate (d :: ds).length (Cell.lst Z0) := by
      rw [List.append_assoc, List.length_cons, List.replicate_succ]
      rfl
    show ψ ((acc ++ [refL n.ob.length]) ++ _) ⟨n.n, (n.ob ++ [Cell.lst Z0]) ++ _⟩
    rw [e1, e2]
    exact h
theorem readRows {rows : List (List Int)} {L : Nat} {n : Wd} {ψ : List D → Wd → Prop} : ∀ (is : List Nat) (acc : List D), (∀ i ∈ is, n.ob[L + i]? = some (.lst ((rows.getD i []).map .int))) → ψ (acc ++ is.map fun i => tI (rows.getD i [])) n → lcA (fun d => someM (tupleZ d)) (is.map fun i => refL (L + i)) acc n ψ
  | [], acc, _, h => by
    have h : ψ (acc ++ []) n := h
    rw [List.append_nil] at h
    exact h
  | i :: is, acc, hi, h => by
    show (tupleZ (refL (L + i)) >>= fun y => lcA (fun d => someM (tupleZ d)) (is.map fun i => refL (L + i)) (acc ++ (some y).toList)) n ψ
    refine zTup (hi i List.mem_cons_self) (readRows is _ (fun j hj => hi j (List.mem_cons_of_mem _ hj)) ?_)
    have e : acc ++ (some (PyData.tuple ((rows.getD i []).map PyData.int))).toList ++ (is.map fun i => tI (rows.getD i [])) = acc ++ (i :: is).map fun i => tI (rows.getD i []) := by simp
    rw [e]
    exact h
theorem zB {α β : Type} {x : Z α} {f : α → Z β} {n : Wd} {ψ : β → Wd → Prop} (h : x n (fun a n' => f a n' ψ)) : (x >>= f) n ψ := h
theorem turnsZ {f : D → Unit → Z (Fl Unit)} {I : Nat → Nat → Wd → Prop} (hf : ∀ x i d n ψ, I i (d + 1) n → (∀ n', I (i + 1) d n' → ψ (.nx ()) n') → f x () n ψ) : ∀ (ds : List D) (i d : Nat) (n : Wd) (ψ : Fl Unit → Wd → Prop), I i (d + ds.length) n → (∀ n', I (i + ds.length) d n' → ψ (.nx ()) n') → loopM f ds () n ψ
  | [], i, d, n, ψ, h, q => q n h
  | x :: ds, i, d, n, ψ, h, q => by
    unfold loopM
    refine zB (hf x i (d + ds.length) n _ (by rw [List.length_cons] at h; exact h) fun n' hn' => ?_)
    exact turnsZ hf ds (i + 1) d n' ψ hn' fun n2 h2 => q n2 (by rw [List.length_cons]; rwa [show i + (ds.length + 1) = i + 1 + ds.length by omega])
theorem row_at {d : Nat} {E : List Cell} {rows : List (List Int)} {n : Wd} {i : Nat} (h : DkZ d (E ++ RowsC rows) n) (hi : i < rows.length) : n.ob[3 + E.length + i]? = some (.lst ((rows.getD i []).map .int)) := by
  obtain ⟨c, cs, rs, e, _⟩ := h
  rw [e, List.getElem?_append_right (by show 3 ≤ _; omega), List.getElem?_append_right (by show E.length ≤ 3 + E.length + i - 3; omega), List.getElem?_map]
  have e2 : 3 + E.length + i - (deck3 c cs rs).length - E.length = i := by show 3 + E.length + i - 3 - E.length = i; omega
  rw [e2, List.getElem?_eq_getElem hi, List.getD_eq_getElem?_getD, List.getElem?_eq_getElem hi]
  rfl
theorem row_set {d : Nat} {E : List Cell} {rows : List (List Int)} {n : Wd} {i : Nat} {r : List Int} (h : DkZ d (E ++ RowsC rows) n) (hi : i < rows.length) : DkZ d (E ++ RowsC (rows.set i r)) ⟨n.n, n.ob.set (3 + E.length + i) (.lst (r.map .int))⟩ := by
  obtain ⟨c, cs, rs, e, h⟩ := h
  refine ⟨c, cs, rs, ?_, h⟩
  show n.ob.set _ _ = _
  have e2 : 3 + E.length + i - 3 - E.length = i := by omega
  rw [e, List.set_append_right _ _ (by show 3 ≤ _; omega), List.set_append_right _ _ (by show E.length ≤ 3 + E.length + i - 3; omega)]
  show deck3 c cs rs ++ (E ++ (RowsC rows).set (3 + E.length + i - 3 - E.length) _) = _
  rw [e2]
  show _ = deck3 c cs rs ++ (E ++ (rows.set i r).map fun r => Cell.lst (r.map PyData.int))
  rw [List.map_set]
theorem zNext {β : Type} {k : Int} {d : Nat} {E : List Cell} {n : Wd} {f : D → Z β} {ψ : β → Wd → Prop} (h0 : 0 < k) (h1 : k < 1073741824) (hn : DkZ (1 + d) E n) (q : ∀ (r : Int) (n' : Wd), 0 ≤ r → r < k → DkZ d E n' → f (.int r) n' ψ) : (M__law_next [.val (refL 0), .val (.int k)] >>= f) n ψ := next_at h0 h1 hn fun r n' r0 r1 hn' => q r n' r0 r1 hn'
theorem shp_step {w k : Nat} {T : Int} {rows : List (List Int)} (h : Shp w k T rows) (hT : 0 ≤ T) {i j : Nat} (hi : i < w) (hj : j < k) : Shp w k (T + 1) (rows.set i ((rows.getD i []).set j ((rows.getD i []).getD j 0 + 1))) := by
  have hil : i < rows.length := by rw [h.len]; exact hi
  have hr : rows.getD i [] ∈ rows := by
    rw [List.getD_eq_getElem?_getD, List.getElem?_eq_getElem hil]
    exact List.getElem_mem hil
  have hjl : j < (rows.getD i []).length := by rw [h.row _ hr]; exact hj
  have hx := h.ge _ hr _ (at_mem hjl)
  refine ⟨by rw [List.length_set]; exact h.len, fun r hrm => ?_, fun r hrm x hxm => ?_, ?_⟩
  · rcases List.mem_or_eq_of_mem_set hrm with z | z
    · exact h.row r z
    · rw [z, List.length_set]
      exact h.row _ hr
  · rcases List.mem_or_eq_of_mem_set hrm with z | z
    · have := h.ge r z x hxm
      omega
    · rw [z] at hxm
      rcases List.mem_or_eq_of_mem_set hxm with y | y
      · have := h.ge _ hr x y
        omega
      · omega
  · rw [List.map_set, set_sum1 _ _ _ (by rw [List.length_map]; exact hil), h.sum, set_sum1 _ _ _ hjl]
    have : (rows.map List.sum).getD i 0 = (rows.getD i []).sum := by
      simp [List.getD, hil]
    rw [this]
    omega
theorem shp_zero {w k : Nat} : Shp w k 0 (List.replicate w (List.replicate k 0)) := by
  refine ⟨by simp, fun r hr => ?_, fun r hr x hx => ?_, ?_⟩
  · rw [List.eq_of_mem_replicate hr]; simp
  · rw [List.eq_of_mem_replicate hr] at hx
    have := List.eq_of_mem_replicate hx
    omega
  · rw [List.map_replicate]
    have : ∀ a b : Nat, (List.replicate a (List.replicate b (0 : Int)).sum).sum = 0 := fun a b => by
      have e : (List.replicate b (0 : Int)).sum = 0 := by induction b with
        | zero => rfl
        | succ b ih => rw [List.replicate_succ, List.sum_cons, ih]; rfl
      rw [e]
      induction a with
      | zero => rfl
      | succ a ih => rw [List.replicate_succ, List.sum_cons, ih]; rfl
    exact this w k
theorem newRowsF {Z0 : List D} {f : D → Z D} (hf : ∀ d, f d = newZ Z0) {ds acc : List D} {n : Wd} {ψ : List D → Wd → Prop} (h : ψ (acc ++ (List.range ds.length).map fun i => refL (n.ob.length + i)) ⟨n.n, n.ob ++ List.replicate ds.length (.lst Z0)⟩) : lcA (fun d => someM (f d)) ds acc n ψ := by
  have e : (fun d => someM (f d)) = fun _ => someM (newZ Z0) := by
    funext d
    rw [hf]
  rw [e]
  exact newRows ds acc n ψ h
theorem rows_map {rows : List (List Int)} {w : Nat} (h : rows.length = w) : ((List.range w).map fun i => tI (rows.getD i [])) = rows.map tI := by
  subst h
  refine List.ext_getElem (by simp) fun i h1 h2 => ?_
  have : i < rows.length := by simpa using h2
  simp [List.getD, this]
theorem drawn_ok {dr th : Int} (d1 : 1 ≤ dr) (d4 : dr ≤ 4) (t0 : 0 ≤ th) (t1 : th ≤ 1000) : TrZ (3 + 2 * th.toNat) (m__law_stock (refL 0) (.int dr) (.int th)) (fun d => ∃ S k, d = tT S ∧ Stk th k S ∧ (S.length : Int) ≤ dr ∧ (S.map List.sum).sum ≤ th) := by
  intro d E n ψ hn q
  unfold m__law_stock
  simp only [op2, op1, cmp2, chain3, tst, notB, andB, orB, andD, orD, iteM, consM, starM, smallM, tupM, tupSM, lstM, argV, argK, comp1, comp1i, comp2, comp2i, comp11, seqM, rng1, rng2, zipSM, zip2M, zip3M, enumM, repM, joinM, catM, par3LM, put2M, popM, parLV, putVM, unpS, trg1M, sortSetM, orV, lrg1M, par3M, rdM, rdLM, partM, slcM, isiM, rtM, forM1, forM2, forM3, parM, unp2, unp3, unp2A, unp3A, unp4A, zb_assoc, zb_pure]
  refine zNext (d := 2 + 2 * th.toNat + d) (by omega) (by omega) (hn.le (by omega)) fun a n1 a0 a1 h1 => zL (add_int _ _) ?_
  refine zNext (d := 1 + 2 * th.toNat + d) (by decide) (by decide) (h1.le (by omega)) fun b n2 b0 b1 h2 => zL (add_int _ _) ?_
  obtain ⟨w, ew⟩ : ∃ w : Nat, 1 + a = (w : Nat) := ⟨(1 + a).toNat, by omega⟩
  obtain ⟨k, ek⟩ : ∃ k : Nat, 1 + b = (k : Nat) := ⟨(1 + b).toNat, by omega⟩
  refine zL (a := (.int (w : Nat), .int (k : Nat))) (by rw [ew, ek]; rfl) ?_
  refine zL (range1_ok (by omega) (by omega)) (zL (small_ok (by rw [rangeL_length]; omega)) ?_)
  rw [Int.toNat_natCast]
  have hL : n2.ob.length = 3 + E.length := by
    obtain ⟨c, cs, rs, e, _⟩ := h2
    rw [e, List.length_append]
    rfl
  have er : repO [.int 0] (.int (k : Nat)) = some ((List.replicate k (0 : Int)).map .int) := by
    rw [rep_ok (by omega) (by omega) (by decide), Int.toNat_natCast]
    simp
  refine zB (newRowsF (Z0 := (List.replicate k (0 : Int)).map .int) (fun _ => ?_) ?_)
  · show (Mo.lift (repO [.int 0] (.int (k : Nat))) >>= newZ : Z D) = _
    rw [er, zb_some]
  rw [List.nil_append, rangeL_length, hL]
  have h3 : DkZ (1 + 2 * th.toNat + d) (E ++ RowsC (List.replicate w (List.replicate k 0))) ⟨n2.n, n2.ob ++ List.replicate w (.lst ((List.replicate k (0 : Int)).map .int))⟩ := by
    obtain ⟨c, cs, rs, e, h⟩ := h2
    refine ⟨c, cs, rs, ?_, h⟩
    show n2.ob ++ _ = _
    rw [e, List.append_assoc]
    simp [RowsC]
  generalize (⟨n2.n, n2.ob ++ List.replicate w (.lst ((List.replicate k (0 : Int)).map .int))⟩ : Wd) = n3 at h3
  refine zL (add_int _ _) (zNext (d := 2 * th.toNat + d) (by omega) (by omega) (h3.le (by omega)) fun t n4 u0 u1 h4 => zL (range1_ok (by omega) (by omega)) ?_)
  obtain ⟨t, rfl⟩ : ∃ t' : Nat, t = (t' : Nat) := ⟨t.toNat, by omega⟩
  rw [Int.toNat_natCast]
  have hget : ∀ i : Nat, i < w → DD.getD (.list ((List.range w).map fun i => refL (3 + E.length + i))) (.int (i : Nat)) = some (refL (3 + E.length + i)) := fun i hi => by
    rw [get_lst (F := fun i => refL (3 + E.length + i)) (xs := List.range w) (i := i) (by simpa using hi), List.getElem_range]
  refine zB (turnsZ (I := fun i d' n => ∃ rows, Shp w k (i : Nat) rows ∧ DkZ (2 * d' + d) (E ++ RowsC rows) n) (fun x i d' n ψ ⟨rows, hsh, hdk⟩ q => ?hb) (rangeL 0 t) 0 0 n4 _ ⟨_, shp_zero, h4.le (by rw [rangeL_length]; omega)⟩ fun n5 ⟨rows, hsh, h5⟩ => ?hc)
  case hb =>
    refine zNext (d := 1 + (2 * d' + d)) (by omega) (by omega) (hdk.le (by omega)) fun a n1 a0 a1 h1 => zNext (by omega) (by omega) h1 fun b n2 b0 b1 h2 => ?_
    obtain ⟨a, rfl⟩ : ∃ a' : Nat, a = (a' : Nat) := ⟨a.toNat, by omega⟩
    obtain ⟨b, rfl⟩ : ∃ b' : Nat, b = (b' : Nat) := ⟨b.toNat, by omega⟩
    have hal : a < rows.length := by rw [hsh.len]; omega
    have hr : rows.getD a [] ∈ rows := by
      rw [List.getD_eq_getElem?_getD, List.getElem?_eq_getElem hal]
      exact List.getElem_mem hal
    have hbl : b < (rows.getD a []).length := by rw [hsh.row _ hr]; omega
    refine zIx0 rfl (hget a (by omega)) (zIx (row_at h2 hal) (at_intL hbl) (zL (add_int _ _) (zIx0 rfl (hget a (by omega)) (zSet (row_at h2 hal) (es := ((rows.getD a []).set b ((rows.getD a []).getD b 0 + 1)).map .int) ?_ ?_))))
    · rw [put_at (by rw [List.length_map]; exact hbl), List.map_set]
    · exact q _ ⟨_, by
        have := shp_step hsh (by omega) (i := a) (j := b) (by omega) (by omega)
        exact_mod_cast this, row_set h2 hal⟩
  case hc =>
    rw [rangeL_length, Nat.zero_add] at hsh
    refine zL (it_lst _) (zL (small_ok (by simp; omega)) (zB (readRows (rows := rows) (L := 3 + E.length) (List.range w) [] (fun i hi => row_at h5 (by rw [hsh.len]; exact List.mem_range.mp hi)) ?_)))
    rw [List.nil_append, rows_map hsh.len]
    refine ⟨_, tup_lst _, q _ (RowsC rows) n5 (h5.le (by omega)) ⟨rows, k, rfl, ⟨by rw [hsh.len]; omega, by rw [hsh.len]; omega, by omega, by omega, hsh.row, fun r hr x hx => ?_⟩, by rw [hsh.len]; omega, by rw [hsh.sum]; omega⟩⟩
    have := hsh.ge r hr x hx
    omega
theorem ltot_eq {rows : List (List Int)} {k : Nat} (h1 : 1 ≤ rows.length) (h4 : rows.length ≤ 1000) (hl : ∀ r ∈ rows, r.length = k) (hk : k ≤ 1000) : m__law_totals (tT rows) = some (tI (cols rows k)) := by
  have row0 := get_row (rows := rows) (d := 0) h1
  rw [Int.natCast_zero] at row0
  have r0l : (rows.getD 0 []).length = k := row_len hl h1
  have e4 : lenD (tI (rows.getD 0 [])) = some (.int (k : Nat)) := by rw [len_tup, List.length_map, r0l]
  unfold m__law_totals
  simp only [op1, lstM, comp1, rng1, seqM, op2, ob_pure, ob_lift, ob_assoc]
  refine bindE row0 (bindE e4 (bindE (range1_nat (k := (k : Int)) (by omega) (by omega)) ?_))
  rw [Int.toNat_natCast]
  refine bindE (small_ok (by simp; omega)) (bindE (lcA_mapP (m := Option) (F := fun i : Nat => PyData.int (i : Nat)) (G := fun j => .int (col rows j).sum) (List.range k) [] fun j hj => ?_) ?_)
  · have hj' := List.mem_range.mp hj
    simp only [it_tup, ob_some]
    refine bindE (small_ok (by rw [List.length_map]; omega)) (bindE (lcA_mapP (m := Option) (F := tI) (G := fun r => .int (r.getD j 0)) rows [] fun r hr => ?_) ?_)
    · exact at_int (by rw [hl r hr]; exact hj')
    · rw [List.nil_append, int_map]
      exact sum_lI _
  · rw [List.nil_append, int_map]
    rfl
theorem wo2_eq {k d j : Nat} {S : List (List Int)} (st : Stk 50 k S) (hd : d < S.length) (hj : j < k) : M__law_without [.val (tT S), .val (.int (d : Nat)), .val (.int (j : Nat))] = some (tT (takeT S d j)) := by
  have h4 := st.four
  have hl : (S.getD d []).length = k := st.len _ (row_mem hd)
  have k4 := st.k4
  have hat := at_T st hd hj
  show m__law_without (tT S) (.int (d : Nat)) (.int (j : Nat)) = _
  unfold m__law_without
  simp only [op2, op1, cmp2, chain3, tst, notB, andB, orB, andD, orD, iteM, consM, starM, smallM, tupM, tupSM, lstM, argV, argK, comp1, comp1i, comp2, comp2i, comp11, seqM, rng1, rng2, zipSM, zip2M, zip3M, enumM, repM, joinM, catM, par3LM, put2M, popM, parLV, putVM, unpS, trg1M, sortSetM, orV, lrg1M, par3M, rdM, rdLM, partM, slcM, isiM, rtM, forM1, forM2, forM3, parM, unp2, unp3, unp2A, unp3A, unp4A, ob_pure, ob_some, ob_lift, Option.pure_def, add_int, sub_int, lt_int, le_int, gt_int, ge_int, eq_int, ne_int, min_int, max_int, neg_int, bool_bool, not_bool, is_none, isn_none, nn_int, nn_none, nn_tup, len_tup, len_lst, tup_lst, tup_tup, it_lst, it_tup, int_bool, int_int, oint_int, addI_int, subI_int, flat_tI, flat_int, flat_none, Option.bind_some, Option.map_some, Int.zero_add, thenB, thenM, List.nil_append, List.length_map, ob_assoc, get_row hd, hat]
  rw [show tT S = .tuple (S.map tI) from rfl, show tI (S.getD d []) = .tuple ((S.getD d []).map PyData.int) from rfl]
  rw [cut_loA (by omega), ob_some, cut_hiA (by omega)]
  simp only [op2, op1, cmp2, chain3, tst, notB, andB, orB, andD, orD, iteM, consM, starM, smallM, tupM, tupSM, lstM, argV, argK, comp1, comp1i, comp2, comp2i, comp11, seqM, rng1, rng2, zipSM, zip2M, zip3M, enumM, repM, joinM, catM, par3LM, put2M, popM, parLV, putVM, unpS, trg1M, sortSetM, orV, lrg1M, par3M, rdM, rdLM, partM, slcM, isiM, rtM, forM1, forM2, forM3, parM, unp2, unp3, unp2A, unp3A, unp4A, ob_pure, ob_some, ob_lift, Option.pure_def, add_int, sub_int, lt_int, le_int, gt_int, ge_int, eq_int, ne_int, min_int, max_int, neg_int, bool_bool, not_bool, is_none, isn_none, nn_int, nn_none, nn_tup, len_tup, len_lst, tup_lst, tup_tup, it_lst, it_tup, int_bool, int_int, oint_int, addI_int, subI_int, flat_tI, flat_int, flat_none, Option.bind_some, Option.map_some, Int.zero_add, thenB, thenM, List.nil_append, List.length_map, ob_assoc]
  rw [Int.toNat_natCast, show ((j : Int) + 1).toNat = j + 1 by omega]
  simp only [take_dt, drop_dt]
  unfold takeT
  generalize atT S d j - 1 = v
  generalize hr : S.getD d [] = row at hl ⊢
  rw [add_tup (by simp; omega), ob_some, add_tup (by simp; omega), ob_some, cut_loA (by omega), ob_some, Int.toNat_natCast, take_dt, add_tup (by simp; omega), ob_some, cut_hiA (by omega), ob_some, show ((d : Int) + 1).toNat = d + 1 by omega, drop_dt, add_tup (by simp; omega)]
  subst hr
  simp [setT, setR, tT, tI]
def inc1 (u : List Int) (j : Nat) : List Int := setR u j (u.getD j 0 + 1)
theorem inc1_len {u : List Int} {j : Nat} (h : j < u.length) : (inc1 u j).length = u.length := setR_len h
theorem inc1_at {u : List Int} {i j : Nat} (h : j < u.length) : (inc1 u j).getD i 0 = u.getD i 0 + if i = j then 1 else 0 := by
  unfold inc1
  rw [setR_set h, set_get h]
  by_cases e : i = j
  · subst e; rw [if_pos rfl, if_pos rfl]
  · rw [if_neg e, if_neg e]; omega
theorem with_eq {u : List Int} {j : Nat} (hj : j < u.length) (h4 : u.length ≤ 4) : M__law_with [.val (tI u), .val (.int (j : Nat))] = some (tI (inc1 u j)) := by
  show m__law_with (tI u) (.int (j : Nat)) = _
  unfold m__law_with
  simp only [op2, op1, cmp2, chain3, tst, notB, andB, orB, andD, orD, iteM, consM, starM, smallM, tupM, tupSM, lstM, argV, argK, comp1, comp1i, comp2, comp2i, comp11, seqM, rng1, rng2, zipSM, zip2M, zip3M, enumM, repM, joinM, catM, par3LM, put2M, popM, parLV, putVM, unpS, trg1M, sortSetM, orV, lrg1M, par3M, rdM, rdLM, partM, slcM, isiM, rtM, forM1, forM2, forM3, parM, unp2, unp3, unp2A, unp3A, unp4A, ob_pure, ob_some, ob_lift, Option.pure_def, add_int, sub_int, lt_int, le_int, gt_int, ge_int, eq_int, ne_int, min_int, max_int, neg_int, bool_bool, not_bool, is_none, isn_none, nn_int, nn_none, nn_tup, len_tup, len_lst, tup_lst, tup_tup, it_lst, it_tup, int_bool, int_int, oint_int, addI_int, subI_int, flat_tI, flat_int, flat_none, Option.bind_some, Option.map_some, Int.zero_add, thenB, thenM, List.nil_append, List.length_map, ob_assoc, at_int hj]
  rw [show tI u = .tuple (u.map PyData.int) from rfl, cut_loA (by omega), ob_some, Int.toNat_natCast, take_dt, add_tup (by simp; omega), ob_some, cut_hiA (by omega), ob_some, show ((j : Int) + 1).toNat = j + 1 by omega, drop_dt, add_tup (by simp; omega)]
  simp [inc1, setR, tI]
/-- what is left and what was taken stay the same together -/
theorem tot_same {k d j : Nat} {S : List (List Int)} {u : List Int} (st : Stk 50 k S) (hu : u.length = k) (hd : d < S.length) (hj : j < k) : addR (inc1 u j) (cols (takeT S d j) k) = addR u (cols S k) := by
  have hc : ∀ S : List (List Int), (cols S k).length = k := fun S => by simp [cols]
  have hi : (inc1 u j).length = k := by rw [inc1_len (by omega), hu]
  have hcg : ∀ (S : List (List Int)) i, i < k → (cols S k).getD i 0 = (col S i).sum := fun S i hi => by simp [cols, List.getD_eq_getElem?_getD, hi]
  refine ext_getD (by rw [addR_len hi (hc _), addR_len hu (hc _)]) fun i h => ?_
  rw [addR_len hi (hc _)] at h
  rw [addR_at hi (hc _) h, addR_at hu (hc _) h, inc1_at (by omega), hcg _ _ h, hcg _ _ h, take_col st hd hj h]
  omega
/-! ### k21: what the law asks of it -/
theorem lenTI {a : List Int} : lenD (tI a) = some (.int (a.length : Nat)) := by rw [show tI a = .tuple (a.map PyData.int) from rfl, len_tup, List.length_map]
theorem has_eq {k : Nat} {C : List (List Int)} {u : List Int} (k4 : k ≤ 4) (h4 : C.length ≤ 4) (hC : ∀ r ∈ C, r.length = k) (hu : u.length = k) : M__law_has [.val (tT C), .val (tI u)] = some (.bool (fulf C u).isSome) := by
  show m__law_has (tT C) (tI u) = _
  unfold m__law_has
  simp only [op2, op1, cmp2, chain3, tst, notB, andB, orB, andD, orD, iteM, consM, starM, smallM, tupM, tupSM, lstM, argV, argK, comp1, comp1i, comp2, comp2i, comp11, seqM, rng1, rng2, zipSM, zip2M, zip3M, enumM, repM, joinM, catM, par3LM, put2M, popM, parLV, putVM, unpS, trg1M, sortSetM, orV, lrg1M, par3M, rdM, rdLM, partM, slcM, isiM, rtM, forM1, forM2, forM3, parM, unp2, unp3, unp2A, unp3A, unp4A, ob_pure, ob_some, ob_lift, Option.pure_def, add_int, sub_int, lt_int, le_int, gt_int, ge_int, eq_int, ne_int, min_int, max_int, neg_int, bool_bool, not_bool, is_none, isn_none, nn_int, nn_none, nn_tup, len_tup, len_lst, tup_lst, tup_tup, it_lst, it_tup, int_bool, int_int, oint_int, addI_int, subI_int, flat_tI, flat_int, flat_none, Option.bind_some, Option.map_some, Int.zero_add, thenB, thenM, List.nil_append, List.length_map, ob_assoc]
  refine bindE (loop_find (m := Option) (F := tI) (p := fun r => cont u r) (R := fun _ => .bool true) (a := ()) C fun r hr => ?_) ?_
  · have hrl := hC r hr
    have er : rangeL 0 ((r.length : Nat) : Int).toNat = (List.range r.length).map fun i : Nat => PyData.int (i : Nat) := by
      rw [Int.toNat_natCast]
      simp [rangeL]
    refine bindE (lenTI (a := r)) (bindE (range1_ok (by omega) (by omega)) (bindE (small_ok (by rw [rangeL_length]; omega)) ?_))
    rw [er]
    refine bindE (lcA_filtP (m := Option) (F := fun i : Nat => PyData.int (i : Nat)) (G := fun i : Nat => PyData.int (i : Nat)) (p := fun j => decide (u.getD j 0 < r.getD j 0)) (List.range r.length) [] (fun j hj => ?_) fun j _ _ => rfl) ?_
    · have hj := List.mem_range.mp hj
      refine bindE (at_int (by omega)) (bindE (at_int hj) ?_)
      rw [lt_int]
      rfl
    · rw [List.nil_append, eq_nilA]
      have e : (((List.range r.length).filter fun j => decide (u.getD j 0 < r.getD j 0)).map fun i : Nat => PyData.int (i : Nat)).isEmpty = cont u r := by
        rw [Bool.eq_iff_iff, List.isEmpty_iff, List.map_eq_nil_iff, List.filter_eq_nil_iff, cont_iff (by omega)]
        constructor
        · intro h j hj
          have := h j (List.mem_range.mpr hj)
          simp at this
          exact this
        · intro h j hj
          have := h j (List.mem_range.mp hj)
          simp
          exact this
      rw [e]
      show ((some (cont u r) : Option Bool) >>= _) = _
      cases cont u r <;> rfl
  · unfold fulf firstN
    cases hf : C.find? fun r => cont u r with
    | some r =>
      have hm := List.find?_some hf
      have hr := List.mem_of_find?_eq_some hf
      have : (C.zipIdx.find? fun q => cont u q.1).isSome = true := by
        rw [List.find?_isSome]
        obtain ⟨i, hi, rfl⟩ := List.mem_iff_getElem.mp hr
        exact ⟨(C[i], i), List.mem_zipIdx_iff_getElem?.mpr (by simp [hi]), hm⟩
      rw [Option.isSome_map, this]
    | none =>
      have : (C.zipIdx.find? fun q => cont u q.1) = none := by
        rw [List.find?_eq_none]
        intro q hq
        have hd : q.1 ∈ C := List.mem_of_getElem? (List.mem_zipIdx_iff_getElem?.mp hq)
        exact List.find?_eq_none.mp hf _ hd
      rw [this]
      rfl
theorem few_err {k : Nat} {S : List (List Int)} (st : Stk 50 k S) (h : 14 < szS S) : MX_need_few [.val (tT S)] = some (.error ⟨"TooLarge", [("bound", .int 14)]⟩) := by
  have f4 := st.four
  have es : M_sizes_of [.val (tT S)] = some (tI (S.map List.sum)) := sizes_eq (by omega)
  have hs := szS_eq st
  have hd : decide ((14 : Int) < (S.map List.sum).sum) = true := decide_eq_true (by omega)
  show mx_need_few (tT S) = _
  unfold mx_need_few
  have e1 : (cmp2 gtD (op1 sumD ((argV (Pure.pure (tT S)) (Pure.pure [])) >>= M_sizes_of)) (Pure.pure (.int 14)) : Option Bool) = some true := by
    simp only [op2, op1, cmp2, chain3, tst, notB, andB, orB, andD, orD, iteM, consM, starM, smallM, tupM, tupSM, lstM, argV, argK, comp1, comp1i, comp2, comp2i, comp11, seqM, rng1, rng2, zipSM, zip2M, zip3M, enumM, repM, joinM, catM, par3LM, put2M, popM, parLV, putVM, unpS, trg1M, sortSetM, orV, lrg1M, par3M, rdM, rdLM, partM, slcM, isiM, rtM, forM1, forM2, forM3, parM, unp2, unp3, unp2A, unp3A, unp4A, ob_pure, ob_some, ob_lift, Option.pure_def, add_int, sub_int, lt_int, le_int, gt_int, ge_int, eq_int, ne_int, min_int, max_int, neg_int, bool_bool, not_bool, is_none, isn_none, nn_int, nn_none, nn_tup, len_tup, len_lst, tup_lst, tup_tup, it_lst, it_tup, int_bool, int_int, oint_int, addI_int, subI_int, flat_tI, flat_int, flat_none, Option.bind_some, Option.map_some, Int.zero_add, thenB, thenM, List.nil_append, List.length_map, ob_assoc, es]
    rw [sum_tI]
    show (gtD (.int _) (.int 14)).bind boolD = _
    rw [gt_int, hd]
    rfl
  rw [e1]
  rfl
theorem told_run {y : ZX D} {ob ob' : List Cell} {d : D} (h : RunX y ob d ob') : Run (m__law_told y) ob d ob' := by
  unfold m__law_told
  simp only [op2, op1, cmp2, chain3, tst, notB, andB, orB, andD, orD, iteM, consM, starM, smallM, tupM, tupSM, lstM, argV, argK, comp1, comp1i, comp2, comp2i, comp11, seqM, rng1, rng2, zipSM, zip2M, zip3M, enumM, repM, joinM, catM, par3LM, put2M, popM, parLV, putVM, unpS, trg1M, sortSetM, orV, lrg1M, par3M, rdM, rdLM, partM, slcM, isiM, rtM, forM1, forM2, forM3, parM, unp2, unp3, unp2A, unp3A, unp4A, zb_assoc, zb_pure, zl_some, zb_some, zx_assoc, zx_pure, zx_some, upz_pure, add_int, sub_int, lt_int, le_int, gt_int, ge_int, eq_int, ne_int, min_int, max_int, neg_int, bool_bool, not_bool, is_none, isn_none, nn_int, nn_none, nn_tup, len_tup, len_lst, tup_lst, tup_tup, it_lst, it_tup, int_bool, int_int, oint_int, addI_int, subI_int, flat_tI, flat_int, flat_none, Option.bind_some, Option.map_some, Int.zero_add, thenB, thenM, List.nil_append, List.length_map]
  exact Run.bind (RunX.try_ (RunX.bind h RunX.pure)) Run.pure
theorem told_thr {y : ZX D} {ob ob' : List Cell} {d : D} (h : ThrX y ob ⟨"TooLarge", [("bound", d)]⟩ ob') : Run (m__law_told y) ob (.list [.str "large", d]) ob' := by
  unfold m__law_told
  simp only [op2, op1, cmp2, chain3, tst, notB, andB, orB, andD, orD, iteM, consM, starM, smallM, tupM, tupSM, lstM, argV, argK, comp1, comp1i, comp2, comp2i, comp11, seqM, rng1, rng2, zipSM, zip2M, zip3M, enumM, repM, joinM, catM, par3LM, put2M, popM, parLV, putVM, unpS, trg1M, sortSetM, orV, lrg1M, par3M, rdM, rdLM, partM, slcM, isiM, rtM, forM1, forM2, forM3, parM, unp2, unp3, unp2A, unp3A, unp4A, zb_assoc, zb_pure, zl_some, zb_some, zx_assoc, zx_pure, zx_some, upz_pure, add_int, sub_int, lt_int, le_int, gt_int, ge_int, eq_int, ne_int, min_int, max_int, neg_int, bool_bool, not_bool, is_none, isn_none, nn_int, nn_none, nn_tup, len_tup, len_lst, tup_lst, tup_tup, it_lst, it_tup, int_bool, int_int, oint_int, addI_int, subI_int, flat_tI, flat_int, flat_none, Option.bind_some, Option.map_some, Int.zero_add, thenB, thenM, List.nil_append, List.length_map]
  refine Run.bind (a := Fl.rt (.list [.str "large", d])) (ThrX.try_ (ThrX.here h) ?_) Run.pure
  unfold exc1
  rw [if_pos rfl]
  dsimp only
  rw [if_pos rfl]
  exact Run.bind (a := true) Run.pure Run.pure
/-! the law's own search -/
structure Kp (S0 : List (List Int)) (dn : List (List Int) → Bool) (z : Nat) (kvs : List (List (List Int) × Int)) : Prop where
  val : ∀ S v, szS S ≤ z → valK kvs S = some v → v = gV dn S
  nd : (kvs.map (·.1)).Nodup
  sub : ∀ S ∈ kvs.map (·.1), S ∈ subs S0
/-- what stands for greater stocks stays -/
def UpK (z : Nat) (kvs kvs' : List (List (List Int) × Int)) : Prop := ∀ S, z < szS S → valK kvs' S = valK kvs S
theorem sto_keys {kvs : List (List (List Int) × Int)} {S0 S : List (List Int)} {v : Int} (nd : (kvs.map (·.1)).Nodup) (sub : ∀ S ∈ kvs.map (·.1), S ∈ subs S0) (hS : S ∈ subs S0) : ((stoK kvs S v).map (·.1)).Nodup ∧ ∀ T ∈ (stoK kvs S v).map (·.1), T ∈ subs S0 := by
  unfold stoK
  split
  · have : (kvs.map fun p => if p.1 = S then (p.1, v) else p).map (·.1) = kvs.map (·.1) := by
      rw [List.map_map]
      refine List.map_congr_left fun p _ => ?_
      show (if p.1 = S then (p.1, v) else p).1 = p.1
      split <;> rfl
    rw [this]
    exact ⟨nd, sub⟩
  · rename_i hs
    have hn : S ∉ kvs.map (·.1) := valK_none.mp (by simpa using hs)
    rw [List.map_append]
    refine ⟨List.nodup_append.mpr ⟨nd, by simp, fun x hx y hy e => ?_⟩, fun x hx => ?_⟩
    · rw [List.map_singleton, List.mem_singleton] at hy
      rw [e, hy] at hx
      exact hn hx
    · rcases List.mem_append.mp hx with hx | hx
      · exact sub x hx
      · rw [List.mem_singleton.mp hx]; exact hS
theorem keys_len {S0 : List (List Int)} {kvs : List (List (List Int) × Int)} {k : Nat} (nd : (kvs.map (·.1)).Nodup) (sub : ∀ S ∈ kvs.map (·.1), S ∈ subs S0) (st : Stk 50 k S0) (h14 : szS S0 ≤ 14) : kvs.length ≤ 16384 := by
  have h1 := nodup_le nd sub
  rw [List.length_map] at h1
  have h2 := subs_len S0 fun r hr x hx => (st.ge r hr x hx).1
  have h3 : 2 ^ (S0.map List.sum).sum.toNat ≤ 2 ^ 14 := Nat.pow_le_pow_right (by decide) h14
  have h4 : 2 ^ 14 = 16384 := rfl
  omega
section
variable {o : List Cell} {kd : Nat} {S0 : List (List Int)} {dn : List (List Int) → Bool} {P : List (List (List Int) × Int) → Prop}
theorem run_lcP {f : D → Z D} {F G : Nat → D} : ∀ (xs : List Nat) (acc : List D) (kvs : List (List (List Int) × Int)), P kvs →
    (∀ x ∈ xs, ∀ kvs, P kvs → ∃ kvs', Run (f (F x)) (o.set kd (.dic kvs)) (G x) (o.set kd (.dic kvs')) ∧ P kvs') →
    ∃ kvs', Run (lcA (fun d => someM (f d)) (xs.map F) acc) (o.set kd (.dic kvs)) (acc ++ xs.map G) (o.set kd (.dic kvs')) ∧ P kvs'
  | [], acc, kvs, hk, _ => ⟨kvs, by rw [List.map_nil, List.map_nil, List.append_nil]; exact Run.pure, hk⟩
  | x :: xs, acc, kvs, hk, h => by
    obtain ⟨kvs1, r1, hk1⟩ := h x List.mem_cons_self kvs hk
    obtain ⟨kvs2, r2, hk2⟩ := run_lcP xs (acc ++ [G x]) kvs1 hk1 fun y hy => h y (List.mem_cons_of_mem _ hy)
    rw [List.append_assoc, List.singleton_append] at r2
    exact ⟨kvs2, Run.bind (Run.bind r1 Run.pure) r2, hk2⟩
theorem run_loopP {A : Type} {f : D → A → Z (Fl A)} {F : Nat → D} {a : List Nat → A} (all : List Nat) (h : ∀ p x q, all = p ++ x :: q → ∀ kvs, P kvs → ∃ kvs', Run (f (F x) (a p)) (o.set kd (.dic kvs)) (.nx (a (p ++ [x]))) (o.set kd (.dic kvs')) ∧ P kvs') {kvs : List (List (List Int) × Int)} (hk : P kvs) :
    ∃ kvs', Run (loopM f (all.map F) (a [])) (o.set kd (.dic kvs)) (.nx (a all)) (o.set kd (.dic kvs')) ∧ P kvs' := by
  have key : ∀ (q p : List Nat), all = p ++ q → ∀ kvs, P kvs → ∃ kvs', Run (loopM f (q.map F) (a p)) (o.set kd (.dic kvs)) (.nx (a all)) (o.set kd (.dic kvs')) ∧ P kvs' := by
    intro q
    induction q with
    | nil =>
      intro p e kvs hk
      rw [List.append_nil] at e
      subst e
      exact ⟨kvs, Run.pure, hk⟩
    | cons x q ih =>
      intro p e kvs hk
      obtain ⟨kvs1, r1, hk1⟩ := h p x q e kvs hk
      obtain ⟨kvs2, r2, hk2⟩ := ih (p ++ [x]) (by rw [e]; simp) kvs1 hk1
      exact ⟨kvs2, Run.bind r1 r2, hk2⟩
  exact key all [] rfl kvs hk
variable {k d : Nat} {C : List (List Int)} {u : List Int} {S : List (List Int)} {FF : List Sl → Z D}
theorem run_lworst (st : Stk 50 k S) (hu : u.length = k) (hd : d ∈ nonz (S.map List.sum)) (hF : ∀ j ∈ nonz (S.getD d []), ∀ kvs, P kvs → ∃ kvs', Run (FF [.val (refD kd), .val (tT (takeT S d j)), .val (tT C), .val (tI (inc1 u j))]) (o.set kd (.dic kvs)) (.int (gV dn (takeT S d j))) (o.set kd (.dic kvs')) ∧ P kvs') {kvs : List (List (List Int) × Int)} (hk : P kvs) :
    ∃ kvs', Run (ar5 (m__law_worst FF) [.val (refD kd), .val (tT S), .val (tT C), .val (tI u), .val (.int (d : Nat))]) (o.set kd (.dic kvs)) (.int (gW dn S d)) (o.set kd (.dic kvs')) ∧ P kvs' := by
  obtain ⟨hdl, _, hn⟩ := full_mem st hd
  have k4 := st.k4
  have hrl := st.len _ (row_mem hdl)
  have oS := okH_tT S
  have oU := okH_tI u
  have er : rangeL 0 ((k : Nat) : Int).toNat = (List.range k).map fun i : Nat => PyData.int (i : Nat) := by
    rw [Int.toNat_natCast]
    simp [rangeL]
  obtain ⟨kvs', hr, hk'⟩ := run_loopP (o := o) (kd := kd) (P := P) (A := List D) (f := fun x154 (a153 : List D) => Mo.lift (DD.getD (tT S) (.int (d : Nat))) >>= fun a_3 => Mo.lift (DD.getD a_3 x154) >>= fun a_4 => Mo.lift ((gtD a_4 (.int 0)).bind boolD) >>= fun k => (if k = true then OverZ.up (hidP (m' := Option) [.any, .val (tT S), .any, .any, .val (.int (d : Nat)), .any, .val x154, .any, .any] ((Pure.pure (tT S) >>= fun d_1 => (Pure.pure (.int (d : Nat)) >>= fun d => (Pure.pure x154 >>= fun d => Pure.pure ([] : List Sl) >>= fun as => Pure.pure (.val d :: as)) >>= fun as => Pure.pure (.val d :: as)) >>= fun as => Pure.pure (.val d_1 :: as)) >>= M__law_without)) >>= fun a_5 => OverZ.up (hidP (m' := Option) [.any, .any, .any, .val (tI u), .any, .any, .val x154, .any, .any] ((Pure.pure (tI u) >>= fun d => (Pure.pure x154 >>= fun d => Pure.pure ([] : List Sl) >>= fun as => Pure.pure (.val d :: as)) >>= fun as => Pure.pure (.val d :: as)) >>= M__law_with)) >>= fun a_6 => FF [.val (refD kd), .val a_5, .val (tT C), .val a_6] >>= fun a => Mo.lift (fits a153.length) >>= fun _ => (Pure.pure (Fl.nx (a153 ++ [a])) : Z (Fl (List D))) else Pure.pure (Fl.nx a153)) >>= fun f => DD.thenB f fun a => (Pure.pure (Fl.nx a) : Z (Fl (List D)))) (F := fun i : Nat => PyData.int (i : Nat)) (a := fun p => (p.filter fun j => decide (0 < (S.getD d []).getD j 0)).map fun j => PyData.int (gV dn (takeT S d j))) (List.range k) (fun p j q e kvs hk => by
    have hj : j < k := List.mem_range.mp (by rw [e]; simp)
    have hpl : (p.filter fun j => decide (0 < (S.getD d []).getD j 0)).length ≤ 4 := by
      have h1 := List.length_filter_le (fun j => decide (0 < (S.getD d []).getD j 0)) p
      have h2 := congrArg List.length e
      simp at h2
      omega
    have hge : DD.getD (tI (S.getD d [])) (.int (j : Nat)) = some (.int (atT S d j)) := at_T st hdl hj
    have hcol : (p ++ [j]).filter (fun j => decide (0 < (S.getD d []).getD j 0)) = p.filter (fun j => decide (0 < (S.getD d []).getD j 0)) ++ if 0 < atT S d j then [j] else [] := by
      rw [List.filter_append]
      congr 1
      have eA : (S.getD d []).getD j 0 = atT S d j := rfl
      rw [List.filter_cons, eA]
      by_cases h : 0 < atT S d j
      · rw [if_pos h, if_pos (decide_eq_true h)]; rfl
      · rw [if_neg h, if_neg (by rw [decide_eq_false h]; decide)]; rfl
    rw [hcol]
    by_cases h : 0 < atT S d j
    · obtain ⟨kvs', hr, hk'⟩ := hF j (mem_nonz.mpr ⟨by rw [hrl]; exact hj, h⟩) kvs hk
      refine ⟨kvs', Run.bL (get_row hdl) (Run.bL hge (Run.bL (a := true) (by rw [gt_int]; show some (decide _) = _; rw [decide_eq_true h]) (Run.bind (a := Fl.nx _) (run_ifT rfl (Run.bind (Run.hid (a := tT (takeT S d j)) (by simp_all [okSl]; exact ⟨rfl, rfl⟩) (by simp only [op2, op1, cmp2, chain3, tst, notB, andB, orB, andD, orD, iteM, consM, starM, smallM, tupM, tupSM, lstM, argV, argK, comp1, comp1i, comp2, comp2i, comp11, seqM, rng1, rng2, zipSM, zip2M, zip3M, enumM, repM, joinM, catM, par3LM, put2M, popM, parLV, putVM, unpS, trg1M, sortSetM, orV, lrg1M, par3M, rdM, rdLM, partM, slcM, isiM, rtM, forM1, forM2, forM3, parM, unp2, unp3, unp2A, unp3A, unp4A, ob_pure, ob_some, ob_lift, Option.pure_def, add_int, sub_int, lt_int, le_int, gt_int, ge_int, eq_int, ne_int, min_int, max_int, neg_int, bool_bool, not_bool, is_none, isn_none, nn_int, nn_none, nn_tup, len_tup, len_lst, tup_lst, tup_tup, it_lst, it_tup, int_bool, int_int, oint_int, addI_int, subI_int, flat_tI, flat_int, flat_none, Option.bind_some, Option.map_some, Int.zero_add, thenB, thenM, List.nil_append, List.length_map, ob_assoc, wo2_eq st hdl hj])) (Run.bind (Run.hid (a := tI (inc1 u j)) (by simp_all [okSl]; rfl) (by simp only [op2, op1, cmp2, chain3, tst, notB, andB, orB, andD, orD, iteM, consM, starM, smallM, tupM, tupSM, lstM, argV, argK, comp1, comp1i, comp2, comp2i, comp11, seqM, rng1, rng2, zipSM, zip2M, zip3M, enumM, repM, joinM, catM, par3LM, put2M, popM, parLV, putVM, unpS, trg1M, sortSetM, orV, lrg1M, par3M, rdM, rdLM, partM, slcM, isiM, rtM, forM1, forM2, forM3, parM, unp2, unp3, unp2A, unp3A, unp4A, ob_pure, ob_some, ob_lift, Option.pure_def, add_int, sub_int, lt_int, le_int, gt_int, ge_int, eq_int, ne_int, min_int, max_int, neg_int, bool_bool, not_bool, is_none, isn_none, nn_int, nn_none, nn_tup, len_tup, len_lst, tup_lst, tup_tup, it_lst, it_tup, int_bool, int_int, oint_int, addI_int, subI_int, flat_tI, flat_int, flat_none, Option.bind_some, Option.map_some, Int.zero_add, thenB, thenM, List.nil_append, List.length_map, ob_assoc, with_eq (u := u) (j := j) (by omega) (by omega)])) (Run.bind hr (Run.bL (fits_ok (by rw [List.length_map]; omega)) Run.pure))))) ?_))), hk'⟩
      rw [if_pos h, List.map_append]
      exact Run.pure
    · refine ⟨kvs, Run.bL (get_row hdl) (Run.bL hge (Run.bL (a := false) (by rw [gt_int]; show some (decide _) = _; rw [decide_eq_false h]) (Run.bind (a := Fl.nx _) (run_ifF (by decide) Run.pure) ?_))), hk⟩
      rw [if_neg h, List.append_nil]
      exact Run.pure) hk
  refine ⟨kvs', ?_, hk'⟩
  show Run (m__law_worst FF (refD kd) (tT S) (tT C) (tI u) (.int (d : Nat))) _ _ _
  unfold m__law_worst
  simp only [op2, op1, cmp2, chain3, tst, notB, andB, orB, andD, orD, iteM, consM, starM, smallM, tupM, tupSM, lstM, argV, argK, comp1, comp1i, comp2, comp2i, comp11, seqM, rng1, rng2, zipSM, zip2M, zip3M, enumM, repM, joinM, catM, par3LM, put2M, popM, parLV, putVM, unpS, trg1M, sortSetM, orV, lrg1M, par3M, rdM, rdLM, partM, slcM, isiM, rtM, forM1, forM2, forM3, parM, unp2, unp3, unp2A, unp3A, unp4A, zb_assoc, zb_pure, zl_some, zb_some, zx_assoc, zx_pure, zx_some, upz_pure, add_int, sub_int, lt_int, le_int, gt_int, ge_int, eq_int, ne_int, min_int, max_int, neg_int, bool_bool, not_bool, is_none, isn_none, nn_int, nn_none, nn_tup, len_tup, len_lst, tup_lst, tup_tup, it_lst, it_tup, int_bool, int_int, oint_int, addI_int, subI_int, flat_tI, flat_int, flat_none, Option.bind_some, Option.map_some, Int.zero_add, thenB, thenM, List.nil_append, List.length_map]
  refine Run.bL (range1_ok (by omega) (by omega)) ?_
  rw [hu, er]
  refine Run.bind hr ?_
  have e0 : (List.range k).filter (fun j => decide (0 < (S.getD d []).getD j 0)) = nonz (S.getD d []) := by unfold nonz; rw [hrl]
  rw [e0]
  have hm := (maxZ_ok (l := (nonz (S.getD d [])).map fun j => gV dn (takeT S d j)) (fun e => hn (List.map_eq_nil_iff.mp e))).1
  have e : (nonz (S.getD d [])).map (fun j => PyData.int (gV dn (takeT S d j))) = ((nonz (S.getD d [])).map fun j => gV dn (takeT S d j)).map PyData.int := by rw [List.map_map]; rfl
  show Run (Mo.lift (maxD (.list ((nonz (S.getD d [])).map fun j => PyData.int (gV dn (takeT S d j))))) >>= fun dy => Mo.lift (addD (.int 1) dy)) _ _ _
  rw [e]
  exact Run.bL (max_lI hm) (Run.lift (add_int _ _))
end
theorem run_lfur {o : List Cell} {kd k : Nat} {S0 C : List (List Int)} {T : List Int} (hl : kd < o.length) (st0 : Stk 50 k S0) (h14 : szS S0 ≤ 14) (h4 : C.length ≤ 4) (hC : ∀ r ∈ C, r.length = k) (hd0 : ∀ S, Stk 50 k S → szS S = 0 → dnS k C T S = true) : ∀ (m : Nat) {S : List (List Int)} {u : List Int}, Stk 50 k S → leS S S0 → szS S < m → u.length = k → addR u (cols S k) = T → ∀ kvs, Kp S0 (dnS k C T) (szS S) kvs →
    ∃ kvs', Run (ar4 (m__law_further m) [.val (refD kd), .val (tT S), .val (tT C), .val (tI u)]) (o.set kd (.dic kvs)) (.int (gV (dnS k C T) S)) (o.set kd (.dic kvs')) ∧ Kp S0 (dnS k C T) (szS S) kvs' ∧ UpK (szS S) kvs kvs'
  | 0, S, u, _, _, h, _, _, _, _ => absurd h (Nat.not_lt_zero _)
  | m + 1, S, u, st, hle, h, hu, hT, kvs, hk => by
    have hS : S ∈ subs S0 := mem_subs hle
    have f4 := st.four
    have k4 := st.k4
    have oS := okH_tT S
    have oC := okH_tT C
    have oU := okH_tI u
    have ehas : M__law_has [.val (tT C), .val (tI u)] = some (.bool (dnS k C T S)) := by
      rw [has_eq k4 h4 hC hu]
      unfold dnS
      rw [← hT, cnt_add hu]
    suffices hh : ∃ kvs', Run (if ((valK kvs S).isSome != true) = true then OverZ.up (setK (refD kd) (tT S) (.int 0)) >>= fun _ => OverZ.up (hidP (m' := Option) [.any, .any, .val (tT C), .val (tI u), .any, .any] ((((Pure.pure (tT C) >>= fun d_1 => (Pure.pure (tI u) >>= fun d => Pure.pure ([] : List Sl) >>= fun as => Pure.pure (.val d :: as)) >>= fun as => Pure.pure (.val d_1 :: as)) >>= M__law_has) >>= fun d => Mo.lift (boolD d)) >>= fun b => Pure.pure !b)) >>= fun k => (if k = true then Mo.lift (rangeD1 (.int (S.length : Nat))) >>= fun a_3 => Mo.lift (small a_3) >>= fun a_4 => lcA (fun d => ifM (Mo.lift (DD.getD (tT S) d) >>= fun a => Mo.lift (sumD a) >>= fun dx => Mo.lift ((gtD dx (.int 0)).bind boolD)) (Pure.pure d)) a_4 [] >>= fun v162 => Mo.lift (small v162) >>= fun a_5 => lcA (fun d_1 => someM (ar5 (m__law_worst (ar4 (m__law_further m))) [.val (refD kd), .val (tT S), .val (tT C), .val (tI u), .val d_1])) a_5 [] >>= fun a_6 => Mo.lift (minD (.list a_6)) >>= fun a_7 => OverZ.up (setK (refD kd) (tT S) a_7) >>= fun _ => (Pure.pure (Fl.nx ()) : Z (Fl Unit)) else Pure.pure (Fl.nx ())) >>= fun f => DD.thenB f fun _ => (Pure.pure (Fl.nx ()) : Z (Fl Unit)) else Pure.pure (Fl.nx ())) (o.set kd (.dic kvs)) (Fl.nx ()) (o.set kd (.dic kvs')) ∧ Kp S0 (dnS k C T) (szS S) kvs' ∧ UpK (szS S) kvs kvs' ∧ valK kvs' S = some (gV (dnS k C T) S) by
      obtain ⟨kvs', hr, hk', hup, hv⟩ := hh
      refine ⟨kvs', ?_, hk', hup⟩
      show Run (m__law_further (m + 1) (refD kd) (tT S) (tT C) (tI u)) _ _ _
      unfold m__law_further
      simp only [op2, op1, cmp2, chain3, tst, notB, andB, orB, andD, orD, iteM, consM, starM, smallM, tupM, tupSM, lstM, argV, argK, comp1, comp1i, comp2, comp2i, comp11, seqM, rng1, rng2, zipSM, zip2M, zip3M, enumM, repM, joinM, catM, par3LM, put2M, popM, parLV, putVM, unpS, trg1M, sortSetM, orV, lrg1M, par3M, rdM, rdLM, partM, slcM, isiM, rtM, forM1, forM2, forM3, parM, unp2, unp3, unp2A, unp3A, unp4A, zb_assoc, zb_pure, zl_some, zb_some, zx_assoc, zx_pure, zx_some, upz_pure, add_int, sub_int, lt_int, le_int, gt_int, ge_int, eq_int, ne_int, min_int, max_int, neg_int, bool_bool, not_bool, is_none, isn_none, nn_int, nn_none, nn_tup, len_tup, len_lst, tup_lst, tup_tup, it_lst, it_tup, int_bool, int_int, oint_int, addI_int, subI_int, flat_tI, flat_int, flat_none, Option.bind_some, Option.map_some, Int.zero_add, thenB, thenM, List.nil_append, List.length_map]
      exact Run.bind (run_inK (at_dic hl)) (Run.bL rfl (Run.bind hr (run_getK (at_dic hl) hv)))
    cases hv : valK kvs S with
    | some v =>
      have e := hk.val S v (Nat.le_refl _) hv
      exact ⟨kvs, run_ifF (by simp) Run.pure, hk, fun _ _ => rfl, by rw [hv, e]⟩
    | none =>
      have hlen := keys_len hk.nd hk.sub st0 h14
      obtain ⟨nd0, sub0⟩ := sto_keys (v := 0) hk.nd hk.sub hS
      have set0 : Run (OverZ.up (setK (refD kd) (tT S) (.int 0))) (o.set kd (.dic kvs)) () (o.set kd (.dic (stoK kvs S 0))) := by
        have := run_setK (v := 0) (S := S) (at_dic hl (c := .dic kvs)) hlen
        rw [List.set_set] at this
        exact this
      have hid0 : Run (OverZ.up (hidP (m' := Option) [.any, .any, .val (tT C), .val (tI u), .any, .any] ((((Pure.pure (tT C) >>= fun d_1 => (Pure.pure (tI u) >>= fun d => Pure.pure ([] : List Sl) >>= fun as => Pure.pure (.val d :: as)) >>= fun as => Pure.pure (.val d_1 :: as)) >>= M__law_has) >>= fun d => Mo.lift (boolD d)) >>= fun b => Pure.pure !b))) (o.set kd (.dic (stoK kvs S 0))) (!dnS k C T S) (o.set kd (.dic (stoK kvs S 0))) := Run.hid (by simp_all [okSl]) (by
        simp only [op2, op1, cmp2, chain3, tst, notB, andB, orB, andD, orD, iteM, consM, starM, smallM, tupM, tupSM, lstM, argV, argK, comp1, comp1i, comp2, comp2i, comp11, seqM, rng1, rng2, zipSM, zip2M, zip3M, enumM, repM, joinM, catM, par3LM, put2M, popM, parLV, putVM, unpS, trg1M, sortSetM, orV, lrg1M, par3M, rdM, rdLM, partM, slcM, isiM, rtM, forM1, forM2, forM3, parM, unp2, unp3, unp2A, unp3A, unp4A, ob_pure, ob_some, ob_lift, Option.pure_def, add_int, sub_int, lt_int, le_int, gt_int, ge_int, eq_int, ne_int, min_int, max_int, neg_int, bool_bool, not_bool, is_none, isn_none, nn_int, nn_none, nn_tup, len_tup, len_lst, tup_lst, tup_tup, it_lst, it_tup, int_bool, int_int, oint_int, addI_int, subI_int, flat_tI, flat_int, flat_none, Option.bind_some, Option.map_some, Int.zero_add, thenB, thenM, List.nil_append, List.length_map, ob_assoc, ehas])
      cases hdn : dnS k C T S with
      | true =>
        rw [hdn] at hid0
        refine ⟨stoK kvs S 0, run_ifT rfl (Run.bind set0 (Run.bind hid0 (Run.bind (a := Fl.nx ()) (run_ifF (by decide) Run.pure) Run.pure))), ⟨fun S' v hz hv' => ?_, nd0, sub0⟩, fun S' hz => ?_, ?_⟩
        · rw [valK_sto] at hv'
          by_cases e : S' = S
          · rw [if_pos e] at hv'
            cases hv'
            rw [e, gV_done st hdn]
          · rw [if_neg e] at hv'
            exact hk.val S' v hz hv'
        · rw [valK_sto, if_neg (fun e => by rw [e] at hz; exact Nat.lt_irrefl _ hz)]
        · rw [valK_sto, if_pos rfl, gV_done st hdn]
      | false =>
        rw [hdn] at hid0
        have hpos : 0 < szS S := by
          refine Nat.pos_of_ne_zero fun z => ?_
          rw [hd0 S st z] at hdn
          cases hdn
        have hsum : 0 < (S.map List.sum).sum := by have := szS_eq st; omega
        have hnl : (nonz (S.map List.sum)).length ≤ 4 := by
          have : (nonz (S.map List.sum)).length ≤ (List.range (S.map List.sum).length).length := List.length_filter_le _ _
          rw [List.length_range, List.length_map] at this
          omega
        have er : rangeL 0 ((S.length : Nat) : Int).toNat = (List.range S.length).map fun i : Nat => PyData.int (i : Nat) := by
          rw [Int.toNat_natCast]
          simp [rangeL]
        have ek : (lcA (fun d => ifM (Mo.lift (DD.getD (tT S) d) >>= fun a => Mo.lift (sumD a) >>= fun dx => Mo.lift ((gtD dx (.int 0)).bind boolD)) (Pure.pure d)) ((List.range S.length).map fun i : Nat => PyData.int (i : Nat)) [] : Z (List D)) = Pure.pure ((nonz (S.map List.sum)).map fun j : Nat => PyData.int (j : Nat)) := by
          refine (lcA_filtP (m := Z) (F := fun i : Nat => PyData.int (i : Nat)) (G := fun i : Nat => PyData.int (i : Nat)) (p := fun j => decide (0 < (S.map List.sum).getD j 0)) (List.range S.length) [] (fun j hj => ?_) (fun j _ _ => rfl)).trans ?_
          · have hj := List.mem_range.mp hj
            rw [get_row hj, zb_some, sum_tI, zb_some, map_getD (α := Int) List.sum hj]
            show (Mo.lift ((gtD (.int _) (.int 0)).bind boolD) : Z Bool) = _
            rw [gt_int]
            exact zl_some _
          · rw [List.nil_append]
            unfold nonz
            rw [List.length_map]
        obtain ⟨kvs1, hr, hk1, hup1⟩ := run_lcP (o := o) (kd := kd) (P := fun kvs' => Kp S0 (dnS k C T) (szS S - 1) kvs' ∧ UpK (szS S - 1) (stoK kvs S 0) kvs') (f := fun d_1 => ar5 (m__law_worst (ar4 (m__law_further m))) [.val (refD kd), .val (tT S), .val (tT C), .val (tI u), .val d_1]) (F := fun j : Nat => PyData.int (j : Nat)) (G := fun d => .int (gW (dnS k C T) S d)) (nonz (S.map List.sum)) [] (stoK kvs S 0) ⟨⟨fun S' v hz hv' => by
          rw [valK_sto, if_neg (fun e => by rw [e] at hz; omega)] at hv'
          exact hk.val S' v (by omega) hv', nd0, sub0⟩, fun _ _ => rfl⟩ fun d hd kvs2 hk2 => by
          obtain ⟨hdl, _, hn⟩ := full_mem st hd
          refine run_lworst (FF := ar4 (m__law_further m)) (dn := dnS k C T) st hu hd (fun j hj kvs3 ⟨hk3, hup3⟩ => ?_) hk2
          obtain ⟨hjk, hp⟩ := kind_mem st hdl hj
          have hz := sz_take st hdl hjk hp
          have hz' : szS S - 1 = szS (takeT S d j) := by omega
          rw [hz'] at hk3 hup3 ⊢
          obtain ⟨kvs4, r4, k4', u4⟩ := run_lfur hl st0 h14 h4 hC hd0 m (u := inc1 u j) (take_stk st hdl hjk hp) (leS_take st hle hdl hjk hp) (by omega) (by rw [inc1_len (by omega), hu]) (by rw [tot_same st hu hdl hjk, hT]) kvs3 hk3
          exact ⟨kvs4, r4, k4', fun S' hz2 => (u4 S' hz2).trans (hup3 S' hz2)⟩
        have hm := (minZ_ok (l := (nonz (S.map List.sum)).map fun d => gW (dnS k C T) S d) (fun e => nonz_ne hsum (List.map_eq_nil_iff.mp e))).1
        have e : ([] : List D) ++ (nonz (S.map List.sum)).map (fun d => PyData.int (gW (dnS k C T) S d)) = ((nonz (S.map List.sum)).map fun d => gW (dnS k C T) S d).map PyData.int := by rw [List.map_map]; rfl
        rw [e] at hr
        have hg : gV (dnS k C T) S = minZ ((nonz (S.map List.sum)).map fun d => gW (dnS k C T) S d) := by
          rw [gV_eq st, hdn]
          rfl
        obtain ⟨nd1, sub1⟩ := sto_keys (v := gV (dnS k C T) S) hk1.nd hk1.sub hS
        have set1 : Run (OverZ.up (setK (refD kd) (tT S) (.int (gV (dnS k C T) S)))) (o.set kd (.dic kvs1)) () (o.set kd (.dic (stoK kvs1 S (gV (dnS k C T) S)))) := by
          have := run_setK (v := gV (dnS k C T) S) (S := S) (at_dic hl (c := .dic kvs1)) (keys_len hk1.nd hk1.sub st0 h14)
          rw [List.set_set] at this
          exact this
        refine ⟨stoK kvs1 S (gV (dnS k C T) S), run_ifT rfl (Run.bind set0 (Run.bind hid0 (Run.bind (a := Fl.nx ()) (run_ifT rfl (Run.bL (range1_ok (by omega) (by omega)) (Run.bL (small_ok (by rw [rangeL_length]; omega)) ?_))) Run.pure))), ⟨fun S' v hz hv' => ?_, nd1, sub1⟩, fun S' hz => ?_, by rw [valK_sto, if_pos rfl]⟩
        · rw [er, ek]
          refine Run.bind Run.pure (Run.bL (small_ok (by rw [List.length_map]; omega)) (Run.bind hr (Run.bL (min_lI hm) ?_)))
          rw [← hg]
          exact Run.bind set1 Run.pure
        · rw [valK_sto] at hv'
          by_cases e : S' = S
          · rw [if_pos e] at hv'
            cases hv'
            rw [e]
          · rw [if_neg e] at hv'
            by_cases hz2 : szS S' ≤ szS S - 1
            · exact hk1.val S' v hz2 hv'
            · rw [hup1 S' (by omega), valK_sto, if_neg e] at hv'
              exact hk.val S' v hz hv'
        · have e : ¬ S' = S := fun e => by rw [e] at hz; exact Nat.lt_irrefl _ hz
          rw [valK_sto, if_neg e, hup1 S' (by omega), valK_sto, if_neg e]
def TrB {α : Type} (b : Nat) (E : List Cell) (x : Z α) (Q : α → List Cell → Prop) : Prop := ∀ (d : Nat) (n : Wd) (ψ : α → Wd → Prop), DkZ (b + d) E n → (∀ a E' n', DkZ d E' n' → Q a E' → ψ a n') → x n ψ
theorem TrB.pure {a : α} {Q : α → List Cell → Prop} (h : Q a E) : TrB b E (Pure.pure a : Z α) Q := fun d n ψ hn q => q a E n (hn.le (by omega)) h
theorem TrB.st {x : Z α} {f : α → Z β} {Q : α → List Cell → Prop} {R : β → List Cell → Prop} (h : TrB b E x Q) (hf : ∀ a E', Q a E' → TrB (d - b) E' (f a) R) (hd : b ≤ d := by decide) : TrB d E (x >>= f) R := fun e n ψ hn q =>
  h ((d - b) + e) n (fun a n' => f a n' ψ) (hn.le (by omega)) fun a E' n' hn' ha => hf a E' ha e n' ψ hn' q
theorem TrB.mono {x : Z α} {Q R : α → List Cell → Prop} (h : TrB b E x Q) (hb : b ≤ c) (hp : ∀ a E', Q a E' → R a E') : TrB c E x R := fun d n ψ hn q => h d n ψ (hn.le (by omega)) fun a E' n' hn' ha => q a E' n' hn' (hp a E' ha)
theorem TrB.le {x : Z α} {Q : α → List Cell → Prop} (h : TrB b E x Q) (hb : b ≤ c) : TrB c E x Q := h.mono hb fun _ _ z => z
theorem TrB.ofZ {x : Z α} {φ : α → Prop} (h : TrZ b x φ) : TrB b E x (fun a E' => φ a ∧ ∃ l, E' = E ++ l) := fun d n ψ hn q => h d E n ψ hn fun a E' n' hn' ha => q a _ n' hn' ⟨ha, E', rfl⟩
theorem TrB.bZ {x : Z α} {f : α → Z β} {φ : α → Prop} {R : β → List Cell → Prop} (h : TrZ b x φ) (hf : ∀ a l, φ a → TrB (d - b) (E ++ l) (f a) R) (hd : b ≤ d := by decide) : TrB d E (x >>= f) R := (TrB.ofZ h).st (fun a E' ⟨ha, l, e⟩ => e ▸ hf a l ha) hd
theorem TrB.r {x : Z α} {f : α → Z β} {a : α} {R : β → List Cell → Prop} (h : ∀ c cs rs, Run x (deck3 c cs rs ++ E) a (deck3 c cs rs ++ E1)) (hf : TrB b E1 (f a) R) : TrB b E (x >>= f) R := fun d n ψ hn q => by
  obtain ⟨c, cs, rs, e, h2⟩ := hn
  obtain ⟨k, ob⟩ := n
  dsimp only at e
  subst e
  exact h c cs rs k _ (hf d ⟨k, _⟩ ψ ⟨c, cs, rs, rfl, h2⟩ q)
theorem TrB.bL {o : Option α} {a : α} {f : α → Z β} {R : β → List Cell → Prop} (e : o = some a) (hf : TrB b E (f a) R) : TrB b E ((Mo.lift o : Z α) >>= f) R := TrB.r (fun _ _ _ => Run.lift e) hf
theorem TrB.ifF {t : Prop} [Decidable t] {x y : Z α} {R : α → List Cell → Prop} (h : ¬ t) (hy : TrB b E y R) : TrB b E (if t then x else y) R := by rw [if_neg h]; exact hy
theorem TrB.loop {A : Type} {f : D → A → Z (Fl A)} {I : List D → A → List Cell → Prop} {R : D → Prop} : ∀ (xs : List D) (a : A) (E : List Cell), I xs a E → (∀ d r a E, I (d :: r) a E → TrB c E (f d a) (PostA (I r) R)) → TrB (xs.length * c) E (loopM f xs a) (PostA (I []) R)
  | [], a, E, h, _ => TrB.pure h
  | d :: r, a, E, h, hf => by
    refine TrB.st (b := c) (hf d r a E h) (fun z E' hz => ?_) (by rw [List.length_cons, Nat.succ_mul]; omega)
    cases z with
    | nx a' => exact (TrB.loop r a' E' hz hf).le (by rw [List.length_cons, Nat.succ_mul]; omega)
    | rt v => exact TrB.pure hz
theorem TrB.thM {A : Type} {x : Z (Fl A)} {y : A → Z D} {I : A → List Cell → Prop} {R : D → List Cell → Prop} (h : TrB b E x (PostA I fun _ => False)) (hy : ∀ a E', I a E' → TrB (d - b) E' (y a) R) (hd : b ≤ d := by decide) : TrB d E (x >>= fun f => DD.thenM f y) R := TrB.st h (fun z E' hz => by
  cases z with
  | nx a => exact hy a E' hz
  | rt v => exact hz.elim) hd
theorem TrB.thB {A A' : Type} {x : Z (Fl A)} {y : A → Z (Fl A')} {I : A → List Cell → Prop} {R : Fl A' → List Cell → Prop} (h : TrB b E x (PostA I fun _ => False)) (hy : ∀ a E', I a E' → TrB (d - b) E' (y a) R) (hd : b ≤ d := by decide) : TrB d E (x >>= fun f => DD.thenB f y) R := TrB.st h (fun z E' hz => by
  cases z with
  | nx a => exact hy a E' hz
  | rt v => exact hz.elim) hd
/-- the table stands first beside the deck -/
def TabE (P : Addr) (E : List Cell) : Prop := ∃ E0, E = .tab P qL :: E0
theorem TabE.app {P : Addr} {E l : List Cell} (h : TabE P E) : TabE P (E ++ l) := by
  obtain ⟨E0, rfl⟩ := h
  exact ⟨E0 ++ l, rfl⟩
theorem TrB.tab {β : Type} {b : Nat} {P : Addr} {E : List Cell} {f : Unit → Z β} {R : β → List Cell → Prop} (h : TabE P E) (hf : TrB b E (f ()) R) : TrB b E (tabZ 3 P qL >>= f) R := TrB.r (fun c cs rs n φ q => ⟨by
  obtain ⟨E0, rfl⟩ := h
  rfl, q⟩) hf
theorem TrZ.growR {x : Z D} {a : D} (h : ∀ ob, ∃ l, Run x ob a (ob ++ l)) : TrZ 0 x (fun d => d = a) := fun d E n ψ hn q => by
  obtain ⟨l, hr⟩ := h n.ob
  refine hr n.n _ (q a l ⟨n.n, n.ob ++ l⟩ ?_ rfl)
  obtain ⟨c, cs, rs, e, r⟩ := hn.le (Nat.le_add_left d 0)
  exact ⟨c, cs, rs, by show n.ob ++ l = _; rw [e, List.append_assoc], r⟩
theorem TrB.ofR {x : Z D} {b : Nat} {E : List Cell} {Q : D → List Cell → Prop} (h : ∃ z, x = Mo.lift (some z) ∧ Q z E) : TrB b E x Q := by
  obtain ⟨z, rfl, hq⟩ := h
  rw [zl_some]
  exact (TrB.pure hq).le (Nat.zero_le _)
theorem ne_strF (z : Str) : (neD (.str z) (.str z)).bind boolD = some false := by
  rw [ne_str]
  simp [boolD]
/-! ### k22: the best drawers -/
/-- r is the smallest of the best drawers, or None -/
structure NextOk (k : Nat) (C S : List (List Int)) (u : List Int) (r : D) : Prop where
  no : ((fulf C u).isSome = true ∨ (fulf C (addR u (cols S k))).isSome = false) → r = .none
  yes : (fulf C u).isSome = false → (fulf C (addR u (cols S k))).isSome = true → ∃ d ∈ nonz (S.map List.sum), r = .int (d : Nat) ∧ ∀ e ∈ nonz (S.map List.sum), gW (dnS k C (addR u (cols S k))) S d < gW (dnS k C (addR u (cols S k))) S e ∨ gW (dnS k C (addR u (cols S k))) S d = gW (dnS k C (addR u (cols S k))) S e ∧ d ≤ e
theorem NextOk.one {k : Nat} {C S : List (List Int)} {u : List Int} {r r' : D} (h : NextOk k C S u r) (h' : NextOk k C S u r') : r = r' := by
  by_cases hc : (fulf C u).isSome = true ∨ (fulf C (addR u (cols S k))).isSome = false
  · rw [h.no hc, h'.no hc]
  · have h1 : (fulf C u).isSome = false := by cases z : (fulf C u).isSome <;> simp_all
    have h2 : (fulf C (addR u (cols S k))).isSome = true := by cases z : (fulf C (addR u (cols S k))).isSome <;> simp_all
    obtain ⟨d, hd, rfl, bd⟩ := h.yes h1 h2
    obtain ⟨e, he, rfl, be⟩ := h'.yes h1 h2
    have a := bd e he
    have b := be d hd
    rw [show d = e by omega]
theorem NextOk.rep {k : Nat} {C S : List (List Int)} {u : List Int} {r : D} (f4 : S.length ≤ 4) (h : NextOk k C S u r) : ∃ z : Str, reprD r = some (.str z) := by
  by_cases hc : (fulf C u).isSome = true ∨ (fulf C (addR u (cols S k))).isSome = false
  · rw [h.no hc]
    exact ⟨_, Rp.none.repr (by decide) (by decide)⟩
  · have h1 : (fulf C u).isSome = false := by cases z : (fulf C u).isSome <;> simp_all
    have h2 : (fulf C (addR u (cols S k))).isSome = true := by cases z : (fulf C (addR u (cols S k))).isSome <;> simp_all
    obtain ⟨d, hd, rfl, _⟩ := h.yes h1 h2
    have hl : d < S.length := by
      have := (mem_nonz.mp hd).1
      rw [List.length_map] at this
      exact this
    exact ⟨_, (Rp.int (i := (d : Nat)) (Nat.lt_of_lt_of_le (show _ < 100 by omega) (by decide))).repr (by decide) (by decide)⟩
theorem run_due22 {k : Nat} {C S : List (List Int)} {u : List Int} (st : Stk 50 k S) (h4 : C.length ≤ 4) (hC : ∀ r ∈ C, r.length = k) (hu : u.length = k) (h14 : szS S ≤ 14) (ob : List Cell) : ∃ l r, Run (M__law_due [.val (tT S), .val (tT C), .val (tI u)]) ob r (ob ++ l) ∧ NextOk k C S u r := by
  have k4 := st.k4
  have f1 := st.one
  have f4 := st.four
  have hcl : (cols S k).length = k := by simp [cols]
  have hal := addR_len hu hcl
  have oS := okH_tT S
  have oC := okH_tT C
  have oU := okH_tI u
  have oT := okH_tI (addR u (cols S k))
  have et : M__law_totals [.val (tT S)] = some (tI (cols S k)) := ltot_eq f1 (by omega) st.len (by omega)
  have eh1 := has_eq k4 h4 hC hu
  have eh2 := has_eq k4 h4 hC hal
  have ez : zipD [tI u, tI (cols S k)] = some ((u.zip (cols S k)).map fun p => .tuple [.int p.1, .int p.2]) := zip_map (by rw [hcl]; omega)
  have er : rangeL 0 ((S.length : Nat) : Int).toNat = (List.range S.length).map fun i : Nat => PyData.int (i : Nat) := by
    rw [Int.toNat_natCast]
    simp [rangeL]
  show ∃ l r, Run (m__law_due (tT S) (tT C) (tI u)) _ _ _ ∧ _
  unfold m__law_due
  simp only [op2, op1, cmp2, chain3, tst, notB, andB, orB, andD, orD, iteM, consM, starM, smallM, tupM, tupSM, lstM, argV, argK, comp1, comp1i, comp2, comp2i, comp11, seqM, rng1, rng2, zipSM, zip2M, zip3M, enumM, repM, joinM, catM, par3LM, put2M, popM, parLV, putVM, unpS, trg1M, sortSetM, orV, lrg1M, par3M, rdM, rdLM, partM, slcM, isiM, rtM, forM1, forM2, forM3, parM, unp2, unp3, unp2A, unp3A, unp4A, zb_assoc, zb_pure, zl_some, zb_some, zx_assoc, zx_pure, zx_some, upz_pure, add_int, sub_int, lt_int, le_int, gt_int, ge_int, eq_int, ne_int, min_int, max_int, neg_int, bool_bool, not_bool, is_none, isn_none, nn_int, nn_none, nn_tup, len_tup, len_lst, tup_lst, tup_tup, it_lst, it_tup, int_bool, int_int, oint_int, addI_int, subI_int, flat_tI, flat_int, flat_none, Option.bind_some, Option.map_some, Int.zero_add, thenB, thenM, List.nil_append, List.length_map]
  have hid1 : ∀ {r : D} {ob' : List Cell} {f : D → Z D}, Run (f (tI (addR u (cols S k)))) ob r ob' → Run (OverZ.up (hidP (m' := Option) [.val (tT S), .any, .val (tI u), .any, .any, .any, .any, .any, .any] ((((Pure.pure (tI u) >>= fun d => ((Pure.pure (tT S) >>= fun d => Pure.pure ([] : List Sl) >>= fun as => Pure.pure (.val d :: as)) >>= M__law_totals) >>= fun e => Mo.lift (zipD [d, e])) >>= fun ds => Mo.lift (small ds) >>= fun ds => lcA (fun d => pairM d fun a b => someM (Pure.pure a >>= fun dx => Pure.pure b >>= fun dy => Mo.lift (addD dx dy))) ds []) >>= fun ds => Pure.pure (PyData.list ds)) >>= fun d => Mo.lift (tupleD d))) >>= f) ob r ob' := fun h => Run.bind (Run.hid (by simp_all [okSl]) (by
    simp only [op2, op1, cmp2, chain3, tst, notB, andB, orB, andD, orD, iteM, consM, starM, smallM, tupM, tupSM, lstM, argV, argK, comp1, comp1i, comp2, comp2i, comp11, seqM, rng1, rng2, zipSM, zip2M, zip3M, enumM, repM, joinM, catM, par3LM, put2M, popM, parLV, putVM, unpS, trg1M, sortSetM, orV, lrg1M, par3M, rdM, rdLM, partM, slcM, isiM, rtM, forM1, forM2, forM3, parM, unp2, unp3, unp2A, unp3A, unp4A, ob_pure, ob_some, ob_lift, Option.pure_def, add_int, sub_int, lt_int, le_int, gt_int, ge_int, eq_int, ne_int, min_int, max_int, neg_int, bool_bool, not_bool, is_none, isn_none, nn_int, nn_none, nn_tup, len_tup, len_lst, tup_lst, tup_tup, it_lst, it_tup, int_bool, int_int, oint_int, addI_int, subI_int, flat_tI, flat_int, flat_none, Option.bind_some, Option.map_some, Int.zero_add, thenB, thenM, List.nil_append, List.length_map, ob_assoc, et, ez]
    refine bindE (small_ok (by rw [List.length_map, List.length_zip]; omega)) ?_
    refine bindE (lcA_map2 (m := Option) (Ga := fun p : Int × Int => .int p.1) (Gb := fun p => .int p.2) (G := fun p => .int (p.1 + p.2)) (fun _ => rfl) (u.zip (cols S k)) [] fun p hp => rfl) ?_
    unfold addR
    rw [List.nil_append]
    show some (PyData.tuple _) = some (PyData.tuple _)
    rw [List.map_map]
    rfl)) h
  by_cases hc : (fulf C u).isSome = true ∨ (fulf C (addR u (cols S k))).isSome = false
  · refine ⟨[], .none, ?_, ⟨fun _ => rfl, fun h1 h2 => by rcases hc with h | h <;> simp_all⟩⟩
    rw [List.append_nil]
    refine hid1 (Run.bind (a := true) (Run.hid (by simp_all [okSl]) ?_) (run_ifT rfl Run.pure))
    simp only [op2, op1, cmp2, chain3, tst, notB, andB, orB, andD, orD, iteM, consM, starM, smallM, tupM, tupSM, lstM, argV, argK, comp1, comp1i, comp2, comp2i, comp11, seqM, rng1, rng2, zipSM, zip2M, zip3M, enumM, repM, joinM, catM, par3LM, put2M, popM, parLV, putVM, unpS, trg1M, sortSetM, orV, lrg1M, par3M, rdM, rdLM, partM, slcM, isiM, rtM, forM1, forM2, forM3, parM, unp2, unp3, unp2A, unp3A, unp4A, ob_pure, ob_some, ob_lift, Option.pure_def, add_int, sub_int, lt_int, le_int, gt_int, ge_int, eq_int, ne_int, min_int, max_int, neg_int, bool_bool, not_bool, is_none, isn_none, nn_int, nn_none, nn_tup, len_tup, len_lst, tup_lst, tup_tup, it_lst, it_tup, int_bool, int_int, oint_int, addI_int, subI_int, flat_tI, flat_int, flat_none, Option.bind_some, Option.map_some, Int.zero_add, thenB, thenM, List.nil_append, List.length_map, ob_assoc, eh1, eh2]
    rcases hc with h | h
    · rw [h]; rfl
    · rw [h]
      cases (fulf C u).isSome <;> rfl
  · have hc1 : (fulf C u).isSome = false := by cases h : (fulf C u).isSome <;> simp_all
    have hc2 : (fulf C (addR u (cols S k))).isSome = true := by cases h : (fulf C (addR u (cols S k))).isSome <;> simp_all
    have hdn : dnS k C (addR u (cols S k)) S = false := by unfold dnS; rw [cnt_add hu]; exact hc1
    have hd0 := dn_zero hal hc2
    have hpos : 0 < szS S := by
      refine Nat.pos_of_ne_zero fun z => ?_
      rw [hd0 S st z] at hdn
      cases hdn
    have hsum : 0 < (S.map List.sum).sum := by have := szS_eq st; omega
    have hne := nonz_ne hsum
    obtain ⟨d, hd, hmin, hbest⟩ := min_pairsP (gW (dnS k C (addR u (cols S k))) S) hne
    have eset : ∀ c : Cell, (ob ++ [Cell.dic []]).set ob.length c = ob ++ [c] := fun c => by rw [List.set_append_right _ _ (Nat.le_refl _), Nat.sub_self]; rfl
    obtain ⟨kvs', hr, _⟩ := run_loopP (o := ob ++ [Cell.dic []]) (kd := ob.length) (P := fun kvs' => Kp S (dnS k C (addR u (cols S k))) (szS S - 1) kvs') (A := List D) (f := fun x220 (a219 : List D) => Mo.lift (DD.getD (tT S) x220) >>= fun a_4 => Mo.lift (sumD a_4) >>= fun a_5 => Mo.lift ((gtD a_5 (.int 0)).bind boolD) >>= fun k => (if k = true then M__law_worst [.val (refD ob.length), .val (tT S), .val (tT C), .val (tI u), .val x220] >>= fun a => Mo.lift (fits a219.length) >>= fun _ => (Pure.pure (Fl.nx (a219 ++ [PyData.tuple [a, x220]])) : Z (Fl (List D))) else Pure.pure (Fl.nx a219)) >>= fun f => DD.thenB f fun a => (Pure.pure (Fl.nx a) : Z (Fl (List D)))) (F := fun i : Nat => PyData.int (i : Nat)) (a := fun p => (p.filter fun j => decide (0 < (S.map List.sum).getD j 0)).map (costP (gW (dnS k C (addR u (cols S k))) S))) (List.range S.length) (fun p x q e kvs hk => by
      have hx : x < S.length := List.mem_range.mp (by rw [e]; simp)
      have hpl : (p.filter fun j => decide (0 < (S.map List.sum).getD j 0)).length ≤ 4 := by
        have h1 := List.length_filter_le (fun j => decide (0 < (S.map List.sum).getD j 0)) p
        have h2 := congrArg List.length e
        simp at h2
        omega
      have hcol : (p ++ [x]).filter (fun j => decide (0 < (S.map List.sum).getD j 0)) = p.filter (fun j => decide (0 < (S.map List.sum).getD j 0)) ++ if 0 < (S.getD x []).sum then [x] else [] := by
        rw [List.filter_append]
        congr 1
        rw [List.filter_cons, map_getD (α := Int) List.sum hx]
        by_cases h : 0 < (S.getD x []).sum
        · rw [if_pos h, if_pos (decide_eq_true h)]; rfl
        · rw [if_neg h, if_neg (by rw [decide_eq_false h]; decide)]; rfl
      rw [hcol]
      by_cases h : 0 < (S.getD x []).sum
      · have hm : x ∈ nonz (S.map List.sum) := mem_nonz.mpr ⟨by rw [List.length_map]; exact hx, by rw [map_getD (α := Int) List.sum hx]; exact h⟩
        obtain ⟨kvs2, r2, k2⟩ := run_lworst (o := ob ++ [Cell.dic []]) (kd := ob.length) (P := fun kvs' => Kp S (dnS k C (addR u (cols S k))) (szS S - 1) kvs') (FF := M__law_further) (dn := dnS k C (addR u (cols S k))) st hu hm (fun j hj kvs3 hk3 => by
          obtain ⟨hdl, _, hn⟩ := full_mem st hm
          obtain ⟨hjk, hp⟩ := kind_mem st hdl hj
          have hz := sz_take st hdl hjk hp
          have hz' : szS S - 1 = szS (takeT S x j) := by omega
          rw [hz'] at hk3 ⊢
          obtain ⟨kvs4, r4, k4', _⟩ := run_lfur (o := ob ++ [Cell.dic []]) (kd := ob.length) (by simp) st h14 h4 hC hd0 16 (u := inc1 u j) (take_stk st hdl hjk hp) (leS_take st (leS_refl st) hdl hjk hp) (by omega) (by rw [inc1_len (by omega), hu]) (tot_same st hu hdl hjk) kvs3 hk3
          exact ⟨kvs4, r4, k4'⟩) hk
        refine ⟨kvs2, Run.bL (get_row hx) (Run.bL (sum_tI _) (Run.bL (a := true) (by rw [gt_int]; show some (decide _) = _; rw [decide_eq_true h]) (Run.bind (a := Fl.nx _) (run_ifT rfl (Run.bind r2 (Run.bL (fits_ok (by rw [List.length_map]; omega)) Run.pure))) ?_))), k2⟩
        rw [if_pos h, List.map_append]
        exact Run.pure
      · refine ⟨kvs, Run.bL (get_row hx) (Run.bL (sum_tI _) (Run.bL (a := false) (by rw [gt_int]; show some (decide _) = _; rw [decide_eq_false h]) (Run.bind (a := Fl.nx _) (run_ifF (by decide) Run.pure) ?_))), hk⟩
        rw [if_neg h, List.append_nil]
        exact Run.pure) (kvs := []) ⟨fun S v _ h => (by cases h), List.nodup_nil, fun S h => (by cases h)⟩
    rw [eset, eset] at hr
    refine ⟨[.dic kvs'], .int (d : Nat), ?_, ⟨fun h => absurd h hc, fun _ _ => ⟨d, hd, rfl, hbest⟩⟩⟩
    refine hid1 (Run.bind (a := false) (Run.hid (by simp_all [okSl]) ?_) (run_ifF (by decide) (Run.bind (a := refD ob.length) (ob1 := ob ++ [Cell.dic []]) (fun n φ q => q) (Run.bL (range1_ok (by omega) (by omega)) ?_))))
    · simp only [op2, op1, cmp2, chain3, tst, notB, andB, orB, andD, orD, iteM, consM, starM, smallM, tupM, tupSM, lstM, argV, argK, comp1, comp1i, comp2, comp2i, comp11, seqM, rng1, rng2, zipSM, zip2M, zip3M, enumM, repM, joinM, catM, par3LM, put2M, popM, parLV, putVM, unpS, trg1M, sortSetM, orV, lrg1M, par3M, rdM, rdLM, partM, slcM, isiM, rtM, forM1, forM2, forM3, parM, unp2, unp3, unp2A, unp3A, unp4A, ob_pure, ob_some, ob_lift, Option.pure_def, add_int, sub_int, lt_int, le_int, gt_int, ge_int, eq_int, ne_int, min_int, max_int, neg_int, bool_bool, not_bool, is_none, isn_none, nn_int, nn_none, nn_tup, len_tup, len_lst, tup_lst, tup_tup, it_lst, it_tup, int_bool, int_int, oint_int, addI_int, subI_int, flat_tI, flat_int, flat_none, Option.bind_some, Option.map_some, Int.zero_add, thenB, thenM, List.nil_append, List.length_map, ob_assoc, eh1, eh2, hc1, hc2]
      rfl
    · rw [er]
      refine Run.bind hr ?_
      have e0 : (List.range S.length).filter (fun j => decide (0 < (S.map List.sum).getD j 0)) = nonz (S.map List.sum) := by unfold nonz; rw [List.length_map]
      rw [e0]
      exact Run.bL hmin (Run.lift rfl)
theorem thr_next {k : Nat} {S : List (List Int)} {c d : D} (st : Stk 50 k S) (h : 14 < szS S) (ob : List Cell) : ThrX (MX_next_drawer [.val (tT S), .val c, .val d]) ob ⟨"TooLarge", [("bound", .int 14)]⟩ ob := by
  have oS := okH_tT S
  show ThrX (mx_next_drawer (tT S) c d) _ _ _
  unfold mx_next_drawer
  simp only [op2, op1, cmp2, chain3, tst, notB, andB, orB, andD, orD, iteM, consM, starM, smallM, tupM, tupSM, lstM, argV, argK, comp1, comp1i, comp2, comp2i, comp11, seqM, rng1, rng2, zipSM, zip2M, zip3M, enumM, repM, joinM, catM, par3LM, put2M, popM, parLV, putVM, unpS, trg1M, sortSetM, orV, lrg1M, par3M, rdM, rdLM, partM, slcM, isiM, rtM, forM1, forM2, forM3, parM, unp2, unp3, unp2A, unp3A, unp4A, zb_assoc, zb_pure, zl_some, zb_some, zx_assoc, zx_pure, zx_some, upz_pure, add_int, sub_int, lt_int, le_int, gt_int, ge_int, eq_int, ne_int, min_int, max_int, neg_int, bool_bool, not_bool, is_none, isn_none, nn_int, nn_none, nn_tup, len_tup, len_lst, tup_lst, tup_tup, it_lst, it_tup, int_bool, int_int, oint_int, addI_int, subI_int, flat_tI, flat_int, flat_none, Option.bind_some, Option.map_some, Int.zero_add, thenB, thenM, List.nil_append, List.length_map]
  exact ThrX.here (ThrX.hid (by simp_all [okSl]) (few_err st h))
theorem TrZ.growQ {x : Z D} {P : D → Prop} (h : ∀ ob, ∃ l r, Run x ob r (ob ++ l) ∧ P r) : TrZ 0 x P := fun d E n ψ hn q => by
  obtain ⟨l, r, hr, hp⟩ := h n.ob
  refine hr n.n _ (q r l ⟨n.n, n.ob ++ l⟩ ?_ hp)
  obtain ⟨c, cs, rs, e, r⟩ := hn.le (Nat.le_add_left d 0)
  exact ⟨c, cs, rs, by show n.ob ++ l = _; rw [e, List.append_assoc], r⟩
theorem told_next {k : Nat} {C S : List (List Int)} {u : List Int} (st : Stk 50 k S) (hC : ∀ r ∈ C, r.length = k) (hu : u.length = k) (h14 : szS S ≤ 14) : TrZ 0 (m__law_told (MX_next_drawer [.val (tT S), .val (tT C), .val (tI u)])) (NextOk k C S u) := TrZ.growQ fun ob => by
  obtain ⟨l, r, hr, h1, h2⟩ := run_next st hC hu h14 ob
  exact ⟨l, r, told_run hr, ⟨h1, h2⟩⟩
theorem due_next {k : Nat} {C S : List (List Int)} {u : List Int} (st : Stk 50 k S) (h4 : C.length ≤ 4) (hC : ∀ r ∈ C, r.length = k) (hu : u.length = k) (h14 : szS S ≤ 14) : TrZ 0 (M__law_due [.val (tT S), .val (tT C), .val (tI u)]) (NextOk k C S u) := TrZ.growQ (run_due22 st h4 hC hu h14)
theorem told_largeN {k : Nat} {S : List (List Int)} {c d : D} (st : Stk 50 k S) (h : 14 < szS S) : TrZ 0 (m__law_told (MX_next_drawer [.val (tT S), .val c, .val d])) (fun r => r = .list [.str "large", .int 14]) := TrZ.growR fun ob => ⟨[], by rw [List.append_nil]; exact told_thr (thr_next st h ob)⟩
/-! ### k22: the law -/
theorem TrZ.ints {f : D → Z D} {m : Int} (ds : List D) (h : ∀ d ∈ ds, TrZ 1 (f d) (fun e => ∃ y : Int, e = .int y ∧ 0 ≤ y ∧ y ≤ m)) : TrZ ds.length (lcA (fun d => someM (f d)) ds []) (fun out => ∃ rs : List Int, out = rs.map PyData.int ∧ rs.length = ds.length ∧ ∀ x ∈ rs, 0 ≤ x ∧ x ≤ m) := by
  refine (TrZ.comp (c := 1) (P := fun _ e => ∃ y : Int, e = .int y ∧ 0 ≤ y ∧ y ≤ m) ds [] h).mono (by omega) ?_
  rintro out ⟨es, eo, ele, eq⟩
  rw [List.nil_append] at eo
  subst eo
  obtain ⟨rs, rfl, hr⟩ := ints_ex (P := fun y => 0 ≤ y ∧ y ≤ m) out fun e he => by
    obtain ⟨i, hi⟩ := List.getElem?_of_mem he
    have hil : i < ds.length := by rw [← ele]; exact (List.getElem?_eq_some_iff.mp hi).1
    exact eq i _ e (List.getElem?_eq_getElem hil) hi
  exact ⟨rs, rfl, by rw [List.length_map] at ele; exact ele, hr⟩
/-- a wish and counts -/
def Wu (k : Nat) (d : D) : Prop := ∃ (C : List (List Int)) (u : List Int), d = .tuple [tT C, tI u] ∧ Wishes k 50 C ∧ u.length = k ∧ ∀ x ∈ u, 0 ≤ x ∧ x ≤ 1000000
theorem rep3 {k : Nat} {S C : List (List Int)} {u : List Int} (st : Stk 50 k S) (ro : Wishes k 50 C) (hu : u.length = k) (h : ∀ x ∈ u, 0 ≤ x ∧ x ≤ 1000000) : ∃ z : Str, reprD (.list [tT S, tT C, tI u]) = some (.str z) := by
  have k4 := st.k4
  have r1 : Rp 21 2 (tT S) := (Rp.tT (n := 4) (k := 4) (fun r hr x hx => by have := st.ge r hr x hx; exact Nat.lt_of_lt_of_le (show _ < 100 by omega) (by decide)) (fun r hr => by rw [st.len r hr]; exact k4) st.four).le (by decide) (by decide)
  have r2 : Rp 21 2 (tT C) := (Rp.tT (n := 4) (k := 4) (fun r hr x hx => by have := ro.ge r hr x hx; exact Nat.lt_of_lt_of_le (show _ < 100 by omega) (by decide)) (fun r hr => by rw [ro.len r hr]; exact k4) ro.four).le (by decide) (by decide)
  have r3 : Rp 21 2 (tI u) := (Rp.tI (n := 4) (fun x hx => by have := h x hx; exact Nat.lt_of_lt_of_le (show _ < 10000000 by omega) (by decide)) (by omega)).le (by decide) (by decide)
  exact ⟨_, (RpA.each (ds := [tT S, tT C, tI u]) (n := 21) (k := 2) fun d hd => by
    rcases List.mem_cons.mp hd with rfl | hd
    · exact r1
    · rcases List.mem_cons.mp hd with rfl | hd
      · exact r2
      · rw [List.mem_singleton.mp hd]; exact r3).lst.repr (by simp) (by decide)⟩
theorem mem_rep {n : Nat} {x y : Int} (h : x ∈ List.replicate n y) : x = y := List.eq_of_mem_replicate h
theorem law_true : ∀ (tP : Addr) (cs rs : List Int), cs.length = rs.length → 0 < cs.length → cs.length ≤ 64 → (∀ r ∈ rs, 0 ≤ r) → m_law tP ⟨0, deck3 0 cs rs ++ [.tab tP qL]⟩ (fun d _ => d = .bool true) := by
  intro tP cs rs hl h0 h64 hr
  have key : ∀ E, TabE tP E → TrB 700 E (m_law tP) (fun d _ => d = .bool true) := fun E hE => by
    unfold m_law
    simp only [op2, op1, cmp2, chain3, tst, notB, andB, orB, andD, orD, iteM, consM, starM, smallM, tupM, tupSM, lstM, argV, argK, comp1, comp1i, comp2, comp2i, comp11, seqM, rng1, rng2, zipSM, zip2M, zip3M, enumM, repM, joinM, catM, par3LM, put2M, popM, parLV, putVM, unpS, trg1M, sortSetM, orV, lrg1M, par3M, rdM, rdLM, partM, slcM, isiM, rtM, forM1, forM2, forM3, parM, unp2, unp3, unp2A, unp3A, unp4A, zb_assoc, zb_pure, zl_some, zb_some, zx_assoc, zx_pure, zx_some, upz_pure, add_int, sub_int, lt_int, le_int, gt_int, ge_int, eq_int, ne_int, min_int, max_int, neg_int, bool_bool, not_bool, is_none, isn_none, nn_int, nn_none, nn_tup, len_tup, len_lst, tup_lst, tup_tup, it_lst, it_tup, int_bool, int_int, oint_int, addI_int, subI_int, flat_tI, flat_int, flat_none, Option.bind_some, Option.map_some, Int.zero_add, thenB, thenM, List.nil_append, List.length_map]
    refine TrB.bL (range1_ok (by decide) (by decide)) ?_
    refine TrB.thM (b := 4 * 120) (I := fun _ E => TabE tP E) ((TrB.loop (c := 120) (I := fun _ _ E => TabE tP E) (R := fun _ => False) (rangeL 0 4) () E hE fun i r _ E hE => ?_).le (by rw [rangeL_length]; decide)) (fun _ E hE => ?_) (by decide)
    · have hstock : TrZ 17 (M__law_stock [.val (refL 0), .val (.int 4), .val (.int 7)]) (fun d => ∃ S k, d = tT S ∧ Stk 7 k S ∧ (S.length : Int) ≤ 4 ∧ (S.map List.sum).sum ≤ 7) := drawn_ok (dr := 4) (th := 7) (by decide) (by decide) (by decide) (by decide)
      refine TrB.bZ (b := 17) hstock ?_ (by decide)
      rintro _ l1 ⟨S, k, rfl, st7, _, hs7⟩
      have st : Stk 50 k S := ⟨st7.one, st7.four, st7.k1, st7.k4, st7.len, fun r hr x hx => by have := st7.ge r hr x hx; omega⟩
      have g0 := get_row (rows := S) (d := 0) st.one
      rw [Int.natCast_zero] at g0
      have l0 : lenD (tI (S.getD 0 [])) = some (.int (k : Nat)) := by rw [len_tup, List.length_map, st.len _ (row_mem st.one)]
      have k1 := st.k1
      have k4 := st.k4
      have f4 := st.four
      have hz : szS S ≤ 7 := by have := szS_eq st; omega
      refine TrB.bL g0 (TrB.bL l0 ?_)
      have hwish : ∀ m : Int, 1 ≤ m → m ≤ 1000 → TrZ 40 (M__law_wished [.val (refL 0), .val (.int (k : Nat)), .val (.int m)]) (fun d => ∃ rows, d = tT rows ∧ Wishes k m rows) := fun m m1 m2 => wished_ok (m := m) k1 k4 m1 m2
      refine TrB.bZ (b := 40) (hwish 3 (by decide) (by decide)) ?_ (by decide)
      rintro _ l2 ⟨C, rfl, ro3⟩
      refine TrB.bZ (b := 40) (hwish 50 (by decide) (by decide)) ?_ (by decide)
      rintro _ l3 ⟨Hd, rfl, roH⟩
      have ro : Wishes k 50 C := ⟨ro3.one, ro3.four, ro3.len, fun r hr x hx => by have := ro3.ge r hr x hx; omega, ro3.pos⟩
      have gH := get_row (rows := Hd) (d := 0) roH.one
      rw [Int.natCast_zero] at gH
      have hHm : Hd.getD 0 [] ∈ Hd := by
        have := roH.one
        simp [List.getD, show 0 < Hd.length by omega]
      have hHl := roH.len _ hHm
      have hHg := roH.ge _ hHm
      refine TrB.bL gH (TrB.bL (it_tup _) (TrB.bL (small_ok (by rw [List.length_map]; omega)) ?_))
      generalize Hd.getD 0 [] = near at hHl hHg
      refine TrB.bZ (b := 4) ((TrZ.ints (m := 50) (near.map PyData.int) fun d hd => ?_).le (by rw [List.length_map]; omega)) ?_ (by decide)
      · obtain ⟨x, hx, rfl⟩ := List.mem_map.mp hd
        have hxb := hHg x hx
        refine TrZ.st (b := 1) (TrZ.draw (k := 4) (by decide) (by decide)) ?_ (by decide)
        rintro _ ⟨y, rfl, y0, y1⟩
        exact TrZ.bindL (sub_int _ _) (TrZ.li (max_int _ _) ⟨_, rfl, by omega, by omega⟩)
      rintro _ l4 ⟨nr, rfl, hnl, hnb⟩
      rw [List.length_map, hHl] at hnl
      refine TrB.bL (mul_one (by omega) (by omega)) (TrB.bL (range1_ok (by omega) (by omega)) (TrB.bL (small_ok (by rw [rangeL_length]; omega)) ?_))
      refine TrB.bZ (b := 4) ((TrZ.ints (m := 2) (rangeL 0 ((k : Nat) : Int).toNat) fun d hd => ?_).le (by rw [rangeL_length]; omega)) ?_ (by decide)
      · refine (TrZ.draw (k := 3) (by decide) (by decide)).mono (Nat.le_refl _) ?_
        rintro _ ⟨y, rfl, y0, y1⟩
        exact ⟨y, rfl, y0, by omega⟩
      rintro _ l5 ⟨dr, rfl, hdl, hdb⟩
      rw [rangeL_length, Int.toNat_natCast] at hdl
      refine TrB.bL (fits_ok (show (2 : Nat) < 1000000 by decide)) (TrB.bL (a := .int (10 ^ 6)) rfl (TrB.bZ (b := 1) (TrZ.draw (k := 2) (by decide) (by decide)) ?_ (by decide)))
      rintro _ l6 ⟨y, rfl, y0, y1⟩
      refine TrB.bL (mul_int (.inl ⟨by omega, by omega⟩)) (TrB.bL (sub_int _ _) (TrB.bL (mul_one (by omega) (by omega)) ?_))
      refine TrB.bL (a := tI (10 ^ 6 * y :: List.replicate ((k : Int) - 1).toNat 0)) (by
        rw [add_tup (by simp; omega)]
        show some (PyData.tuple _) = some (PyData.tuple _)
        rw [List.map_cons, List.map_replicate]
        rfl) ?_
      refine TrB.bL (fits_ok (show (3 : Nat) < 1000000 by decide)) ?_
      have e0 : PyData.tuple (List.replicate ((k : Nat) : Int).toNat (PyData.int 0)) = tI (List.replicate k 0) := by
        rw [Int.toNat_natCast]
        show PyData.tuple _ = PyData.tuple _
        rw [List.map_replicate]
      rw [e0]
      have hall : ∀ d ∈ [PyData.tuple [tT C, tI (List.replicate k 0)], .tuple [tT Hd, .tuple (nr.map PyData.int)]] ++ [.tuple [tT C, .tuple (dr.map PyData.int)]] ++ [.tuple [tT C, tI (10 ^ 6 * y :: List.replicate ((k : Int) - 1).toNat 0)]], Wu k d := fun d hd => by
        simp only [List.mem_append, List.mem_cons, List.not_mem_nil, or_false] at hd
        rcases hd with ((rfl | rfl) | rfl) | rfl
        · exact ⟨C, _, rfl, ro, List.length_replicate, fun x hx => by rw [mem_rep hx]; omega⟩
        · exact ⟨Hd, nr, rfl, roH, hnl, fun x hx => by have := hnb x hx; omega⟩
        · exact ⟨C, dr, rfl, ro, hdl, fun x hx => by have := hdb x hx; omega⟩
        · refine ⟨C, _, rfl, ro, by rw [List.length_cons, List.length_replicate]; omega, fun x hx => ?_⟩
          rcases List.mem_cons.mp hx with rfl | hx
          · omega
          · rw [mem_rep hx]; omega
      refine TrB.thB (b := 0) (I := fun _ E => TabE tP E) ((TrB.loop (c := 0) (I := fun ds _ E => TabE tP E ∧ ∀ d ∈ ds, Wu k d) (R := fun _ => False) _ () _ ⟨(((((hE.app).app).app).app).app).app, hall⟩ fun d r _ E ⟨hE, hds⟩ => ?_).mono (by simp) fun z E' hz => ?_) (fun _ E hE => (TrB.pure (Q := PostA (fun _ E => TabE tP E) fun _ => False) (a := Fl.nx ()) hE).le (Nat.zero_le _)) (by decide)
      · obtain ⟨Cd, u, rfl, roD, hu, hub⟩ := hds d List.mem_cons_self
        have hrest : ∀ d ∈ r, Wu k d := fun d hd => hds d (List.mem_cons_of_mem _ hd)
        have hC := roD.len
        have c4 := roD.four
        obtain ⟨z2, hz2⟩ := rep3 st roD hu hub
        show TrB 0 E (Mo.lift (reprD (.list [tT S, tT Cd, tI u])) >>= _) _
        refine TrB.bL hz2 (TrB.bZ (b := 0) (due_next st c4 hC hu (by omega)) ?_ (by decide))
        intro rd m1 hrd
        obtain ⟨z1, hz1⟩ := hrd.rep f4
        refine TrB.bL (range1_ok (by decide) (by decide)) ?_
        refine TrB.thB (b := 0) (I := fun _ E => TabE tP E) ((TrB.loop (c := 0) (I := fun _ _ E => TabE tP E) (R := fun _ => False) (rangeL 0 2) () _ hE.app fun i r _ E hE => ?_).le (by rw [rangeL_length]; decide)) (fun _ E hE => ?_) (by decide)
        · refine TrB.tab hE (TrB.bZ (b := 0) (told_next st hC hu (by omega)) ?_ (by decide))
          intro rt m2 hrt
          rw [hrt.one hrd]
          refine TrB.bL hz1 (TrB.bL hz1 (TrB.bL (ne_strF z1) (TrB.ifF (by decide) (TrB.pure hE.app))))
        · refine TrB.bL hz2 (TrB.bL (ne_strF z2) (TrB.ifF (by decide) (TrB.pure ⟨hE, hrest⟩)))
      · cases z with
        | nx a => exact hz.1
        | rt v => exact hz
    · refine TrB.bZ (b := 1) (TrZ.draw (k := 6) (by decide) (by decide)) ?_ (by decide)
      rintro _ l1 ⟨r, rfl, r0, r1⟩
      refine TrB.bL (add_int _ _) (TrB.bL (sub_int _ _) ?_)
      have hw : TrZ 40 (M__law_wished [.val (refL 0), .val (.int 2), .val (.int 6)]) (fun d => ∃ rows, d = tT rows ∧ Wishes 2 6 rows) := wished_ok (k := 2) (m := 6) (by decide) (by decide) (by decide) (by decide)
      refine TrB.bZ (b := 40) hw ?_ (by decide)
      rintro _ l2 ⟨C, rfl, ro⟩
      have hC := ro.len
      have c4 := ro.four
      have st : Stk 50 2 [[1 + r, 7 - (1 + r)], [4, 3]] := by
        refine ⟨(by decide : (1 : Nat) ≤ 2), (by decide : (2 : Nat) ≤ 4), by decide, by decide, fun q hq => ?_, fun q hq x hx => ?_⟩
        · simp only [List.mem_cons, List.not_mem_nil, or_false] at hq
          rcases hq with rfl | rfl <;> rfl
        · simp only [List.mem_cons, List.not_mem_nil, or_false] at hq
          rcases hq with rfl | rfl <;> (simp only [List.mem_cons, List.not_mem_nil, or_false] at hx; rcases hx with rfl | rfl <;> omega)
      have h14 : szS [[1 + r, 7 - (1 + r)], [4, 3]] ≤ 14 := by
        unfold szS
        simp
        omega
      refine TrB.bL (a := (tT [[1 + r, 7 - (1 + r)], [4, 3]], tT C)) rfl (TrB.bZ (b := 1) (TrZ.draw (k := 2) (by decide) (by decide)) ?_ (by decide))
      rintro _ l3 ⟨y, rfl, y0, y1⟩
      have hu : ([y, 0] : List Int).length = 2 := rfl
      have hdue : TrZ 0 (M__law_due [.val (tT [[1 + r, 7 - (1 + r)], [4, 3]]), .val (tT C), .val (.tuple [.int y, .int 0])]) (NextOk 2 C [[1 + r, 7 - (1 + r)], [4, 3]] [y, 0]) := due_next st c4 hC hu h14
      refine TrB.bZ (b := 0) hdue ?_ (by decide)
      intro rd l4 hrd
      obtain ⟨z1, hz1⟩ := NextOk.rep (S := [[1 + r, 7 - (1 + r)], [4, 3]]) (by simp) hrd
      have htold : TrZ 0 (m__law_told (MX_next_drawer [.val (tT [[1 + r, 7 - (1 + r)], [4, 3]]), .val (tT C), .val (.tuple [.int y, .int 0])])) (NextOk 2 C [[1 + r, 7 - (1 + r)], [4, 3]] [y, 0]) := told_next st hC hu h14
      refine TrB.tab ((((hE.app).app).app).app) (TrB.bZ (b := 0) htold ?_ (by decide))
      intro rt l5 hrt
      rw [hrt.one hrd]
      refine TrB.bL hz1 (TrB.bL hz1 (TrB.bL (ne_strF z1) (TrB.ifF (by decide) ?_)))
      refine TrB.bL (a := tI [50, 50, 50, 50]) rfl (TrB.bL (a := tT [[50, 50, 50, 50], [50, 50, 50, 50], [50, 50, 50, 50], [50, 50, 50, 50]]) rfl (TrB.bZ (b := 1) (TrZ.draw (k := 3) (by decide) (by decide)) ?_ (by decide)))
      rintro _ l6 ⟨w, rfl, w0, w1⟩
      have hE5 := (((((hE.app (l := l1)).app (l := l2)).app (l := l3)).app (l := l4)).app (l := l5)).app (l := l6)
      have hwd : w = 0 ∨ w = 1 ∨ w = 2 := by omega
      have fin : ∀ (S : List (List Int)) (k : Nat) (E : List Cell), TabE tP E → Stk 50 k S → 14 < szS S → TrB 50 E (Mo.lift (DD.getD (tT S) (.int 0)) >>= fun a => Mo.lift (lenD a) >>= fun v253 => Mo.lift (mulD (.tuple [.int 1]) v253) >>= fun a => Mo.lift (mulD (.tuple [.int 0]) v253) >>= fun a_5 => Mo.lift (mulD (.tuple [.int 1]) v253) >>= fun a_6 => loopM (fun x256 a255 => tabZ 3 tP qL >>= fun _ => m__law_told (MX_next_drawer [.val (tT S), .val (.tuple [a]), .val x256]) >>= fun a => Mo.lift (fits a255.length) >>= fun _ => (Pure.pure (Fl.nx (a255 ++ [a])) : Z (Fl (List D)))) [a_5, a_6] [] >>= fun f => DD.thenM f fun a => tabZ 3 tP qL >>= fun _ => m__law_told (upZ (Mo.lift (mulD (.tuple [.int 50]) v253) >>= fun a => (Pure.pure (.tuple [a]) : Z D)) >>= fun a => upZ (Mo.lift (mulD (.tuple [.int 0]) v253)) >>= fun a_8 => MX_next_drawer [.val (tT S), .val a, .val a_8]) >>= fun a_8 => Mo.lift (fits a.length) >>= fun _ => Mo.lift (mulD (.list [.list [.str "large", .int 14]]) (.int 3)) >>= fun dy => Mo.lift (eqD (.list (a ++ [a_8])) dy)) (fun d _ => d = .bool true) := fun S k E hE st h15 => by
        have k4 := st.k4
        have k1 := st.k1
        have g0 := get_row (rows := S) (d := 0) st.one
        rw [Int.natCast_zero] at g0
        have l0 : lenD (tI (S.getD 0 [])) = some (.int (k : Nat)) := by rw [lenTI, st.len _ (row_mem st.one)]
        refine TrB.bL g0 (TrB.bL l0 (TrB.bL (mul_one (by omega) (by omega)) (TrB.bL (mul_one (by omega) (by omega)) (TrB.bL (mul_one (by omega) (by omega)) ?_))))
        refine TrB.thM (b := 0) (I := fun a E => TabE tP E ∧ a = [.list [.str "large", .int 14], .list [.str "large", .int 14]]) ((TrB.loop (c := 0) (I := fun ds a E => TabE tP E ∧ ∃ m, m + ds.length = 2 ∧ a = List.replicate m (.list [.str "large", .int 14])) (R := fun _ => False) _ [] _ ⟨hE, 0, rfl, rfl⟩ fun d r a E hI => ?_).mono (by simp) fun z E' hz => ?_) (fun a E hI => ?_) (by decide)
        · obtain ⟨hE, m, hm, ha⟩ := hI
          subst ha
          rw [List.length_cons] at hm
          refine TrB.tab hE (TrB.bZ (b := 0) (told_largeN st h15) ?_ (by decide))
          rintro _ m1 rfl
          refine TrB.bL (fits_ok (by rw [List.length_replicate]; omega)) (TrB.pure ⟨hE.app, m + 1, by omega, ?_⟩)
          rw [List.replicate_succ']
        · cases z with
          | nx a =>
            obtain ⟨hE, m, hm, ha⟩ := hz
            obtain rfl : m = 2 := hm
            exact ⟨hE, ha⟩
          | rt v => exact hz
        · obtain ⟨hE, ha⟩ := hI
          subst ha
          refine TrB.tab hE (TrB.bZ (b := 0) (TrZ.growR (a := .list [.str "large", .int 14]) fun ob => ⟨[], by
            rw [List.append_nil]
            exact told_thr (ThrX.bU (Run.bL (mul_one (by omega) (by omega)) Run.pure) (ThrX.bU (Run.lift (mul_one (by omega) (by omega))) (thr_next st h15 ob)))⟩) ?_ (by decide))
          rintro _ m2 rfl
          refine TrB.bL (fits_ok (show (2 : Nat) < 1000000 by decide)) (TrB.bL rfl ?_)
          exact TrB.ofR ⟨.bool true, congrArg (Mo.lift (m := Z)) (by kernel_rfl), rfl⟩
      rcases hwd with rfl | rfl | rfl
      · refine TrB.bL (a := tT [[8, 0], [0, 7]]) rfl ((fin _ 2 _ hE5 ⟨by decide, by decide, by decide, by decide, by decide, by decide⟩ (by decide)).le (by decide))
      · refine TrB.bL (a := tT [[15]]) rfl ((fin _ 1 _ hE5 ⟨by decide, by decide, by decide, by decide, by decide, by decide⟩ (by decide)).le (by decide))
      · refine TrB.bL (a := tT [[50, 50, 50, 50], [50, 50, 50, 50], [50, 50, 50, 50], [50, 50, 50, 50]]) rfl ((fin _ 4 _ hE5 ⟨by decide, by decide, by decide, by decide, by decide, by decide⟩ (by decide)).le (by decide))
  exact key [.tab tP qL] ⟨[], rfl⟩ 0 ⟨0, deck3 0 cs rs ++ [.tab tP qL]⟩ _ ⟨0, cs, rs, rfl, hl, h0, h64, hr, Int.le_refl _, by decide⟩ fun a E' n' _ q => q
end DD
namespace DD
open PySem PySem.Spec PyProof.Rows L2
theorem walk {l : PySem.W.OpenLaw} {q : Program} {loose : List Str} {XP : (Str → Option Value) → Heap → Prop} {YP : World → Heap → Prop} {d : DefRec} {K0 K : Params → PySem.W.Frag} {c9 P9 : Addr} (hn : l.most = some 63) (hdf : d.params.defaults = []) (himp : importsNone q = true) (hY : ∀ (w : World) (h : Heap), YP w h → (K0 w.params).In h) (hK0 : ∀ p : Params, K0 p = (P9, tabO) :: K p) (hnP : ∀ p : Params, (K p).lookup P9 = none) (hcd : ∀ p : Params, PySem.W.codeHdIn (K p) c9 P9 = true)
    (F : ∀ (w : World) (mg : Str → Option Value) (fa : Addr) (h : Heap), (K w.params).In h → h.Ns mainGlobals mg → mg d.name = some (.ref fa) → ∃ fd : FuncData, (∀ (s : Shared) (u : Value), BindsTo s fd ⟨[u], []⟩ [("_law_script", u)]) ∧ ∀ base : Heap, (K w.params).In base → base.Ns mainGlobals mg → SysAt base → LamX.TabB base mg c9 P9 → FnG l.prog w (K w.params) mg base 41 fa fd ["_law_script"] (spLawT (K w.params) P9)) :
    PySem.W.WalkO q loose XP YP l.row.toRowW d [] (fun f vs => PySem.call f vs) :=
  walk_gT (n := 63) (k := 41) (x := "_law_script") hn (by decide) hdf ⟨rfl, by decide, by decide⟩ himp hY hK0 hnP hcd F
end DD
open PySem PySem.W PyProof.Rows
set_option maxRecDepth 100000 in
set_option maxHeartbeats 0 in
theorem PySem.Challenge.cw_darkdrawers_k22_next_drawers_holds : PySem.Challenge.rw_darkdrawers_k22_next_drawers.Holds := by
  w_on; o_law
  refine HeadRun.head_any (q := DD.hq) (H := PySem.W.kHook DD.hK DD.hA DD.hE) (ob := fun s => DD.hA.map (HeadRun.getT s)) (M := 2731) (loose := DD.hL) (d := HeadRun.topDef PySem.Challenge.pw_darkdrawers_k22_next_drawers 34) (kwd := []) DD.hOb ?he ?hf DD.hRun ?hdef ?hp ?hkw ?hwr ?k1 ?ok ?hb ?hw ?call
  case he => kernel_rfl
  case hf => intro s; kernel_rfl
  case hdef => kernel_rfl
  case hp => kernel_rfl
  case hkw => kernel_rfl
  case hwr => kernel_rfl
  case k1 => first | assumption | decide +kernel
  case ok => decide +kernel
  case hb => exact ⟨rfl, rfl, rfl, rfl, rfl, by decide +kernel⟩
  case hw => w_witness2
  k_fill
  refine DD.walk (l := PySem.Challenge.rw_darkdrawers_k22_next_drawers) (K0 := DD.hK) (K := DD.hK0) (c9 := 297) (P9 := 295) rfl rfl (by decide +kernel) (fun w h Y => PySem.W.kIn_of Y) (fun _ => rfl) (fun _ => by kernel_rfl) (fun _ => by kernel_rfl) ?F
  case F =>
    intro w mg fa h KX G hmg
    k_fill
    refine' DD.all_mk KX G hmg DD.law_true ?a0 ?l0 ?c0 ?k0 ?a1 ?l1 ?c1 ?k1 ?a2 ?l2 ?c2 ?k2 ?a3 ?l3 ?c3 ?k3 ?a4 ?l4 ?c4 ?k4 ?a6 ?l6 ?c6 ?k6 ?a7 ?l7 ?c7 ?k7 ?a8 ?l8 ?c8 ?k8 ?a9 ?l9 ?c9 ?k9 ?a10 ?l10 ?c10 ?k10 ?a11 ?l11 ?c11 ?k11 ?a12 ?l12 ?c12 ?k12 ?a13 ?l13 ?c13 ?k13 ?a14 ?l14 ?c14 ?k14 ?a16 ?l16 ?c16 ?k16 ?a19 ?l19 ?c19 ?k19 ?a20 ?l20 ?c20 ?k20 ?a21 ?l21 ?c21 ?k21 ?a22 ?l22 ?c22 ?k22 ?a23 ?l23 ?c23 ?k23 ?a24 ?l24 ?c24 ?k24 ?z0 ?z1 ?z2 ?z3 ?z4 ?z5 ?z6 ?z7 ?z8 ?z9 ?z10 ?z11 ?z12 ?z13 ?y0 ?aC_BadPlan ?aC_BadWish ?aC_DrawerError ?aC_Search ?aC_TooFew ?aC_TooFull ?aC_TooLarge ?aC_TooMuch ?iC_TooLarge ?iT_TooLarge ?iL_TooLarge ?iD_TooLarge ?iK_TooLarge ?iO_TooLarge ?iA_TooLarge ?iB_TooLarge ?iY_TooLarge ?iE_TooLarge ?iN_TooLarge ?e0_TooLarge ?eg_TooLarge ?et_TooLarge ?es_TooLarge ?ed_TooLarge ?ea_TooLarge ?en_TooLarge ?ek_TooLarge ?em_TooLarge ?kit_TooLarge_BadPlan_BadWish_TooFew_TooFull_TooMuch ?kit_TooLarge_TooLarge ?kit_TooLarge_ValueError ?no_TooLarge_bound ?xm_TooLarge_DrawerError ?pg_Search ?hd_Search ?po_Search ?sa_Search ?oa_Search ?on_Search ?ot_Search ?om_Search ?ok_Search ?mk_Search ?kc_Search ?m5 ?t5 ?l5 ?c5 ?k5 ?m15 ?t15 ?l15 ?c15 ?k15 ?m17 ?t17 ?l17 ?c17 ?k17 ?m18 ?t18 ?l18 ?c18 ?k18 ?no_Search_known ?no_Search_needs ?no_Search_totals
    (case a0 => k_is); (case l0 => k_is); (case c0 => k_is); (case k0 => k_is)
    (case a1 => k_is); (case l1 => k_is); (case c1 => k_is); (case k1 => k_is)
    (case a2 => k_is); (case l2 => k_is); (case c2 => k_is); (case k2 => k_is)
    (case a3 => k_is); (case l3 => k_is); (case c3 => k_is); (case k3 => k_is)
    (case a4 => k_is); (case l4 => k_is); (case c4 => k_is); (case k4 => k_is)
    (case a6 => k_is); (case l6 => k_is); (case c6 => k_is); (case k6 => k_is)
    (case a7 => k_is); (case l7 => k_is); (case c7 => k_is); (case k7 => k_is)
    (case a8 => k_is); (case l8 => k_is); (case c8 => k_is); (case k8 => k_is)
    (case a9 => k_is); (case l9 => k_is); (case c9 => k_is); (case k9 => k_is)
    (case a10 => k_is); (case l10 => k_is); (case c10 => k_is); (case k10 => k_is)
    (case a11 => k_is); (case l11 => k_is); (case c11 => k_is); (case k11 => k_is)
    (case a12 => k_is); (case l12 => k_is); (case c12 => k_is); (case k12 => k_is)
    (case a13 => k_is); (case l13 => k_is); (case c13 => k_is); (case k13 => k_is)
    (case a14 => k_is); (case l14 => k_is); (case c14 => k_is); (case k14 => k_is)
    (case a16 => k_is); (case l16 => k_is); (case c16 => k_is); (case k16 => k_is)
    (case a19 => k_is); (case l19 => k_is); (case c19 => k_is); (case k19 => k_is)
    (case a20 => k_is); (case l20 => k_is); (case c20 => k_is); (case k20 => k_is)
    (case a21 => k_is); (case l21 => k_is); (case c21 => k_is); (case k21 => k_is)
    (case a22 => k_is); (case l22 => k_is); (case c22 => k_is); (case k22 => k_is)
    (case a23 => k_is); (case l23 => k_is); (case c23 => k_is); (case k23 => k_is)
    (case a24 => k_is); (case l24 => k_is); (case c24 => k_is); (case k24 => k_is)
    (case z0 => k_is)
    (case z1 => k_is)
    (case z2 => k_is)
    (case z3 => k_is)
    (case z4 => k_is)
    (case z5 => k_is)
    (case z6 => k_is)
    (case z7 => k_is)
    (case z8 => k_is)
    (case z9 => k_is)
    (case z10 => k_is)
    (case z11 => k_is)
    (case z12 => k_is)
    (case z13 => k_is)
    (case y0 => k_is)
    (case aC_BadPlan => first | k_is | kernel_rfl | decide +kernel)
    (case aC_BadWish => first | k_is | kernel_rfl | decide +kernel)
    (case aC_DrawerError => first | k_is | kernel_rfl | decide +kernel)
    (case aC_Search => first | k_is | kernel_rfl | decide +kernel)
    (case aC_TooFew => first | k_is | kernel_rfl | decide +kernel)
    (case aC_TooFull => first | k_is | kernel_rfl | decide +kernel)
    (case aC_TooLarge => first | k_is | kernel_rfl | decide +kernel)
    (case aC_TooMuch => first | k_is | kernel_rfl | decide +kernel)
    (case iC_TooLarge => first | k_is | kernel_rfl | decide +kernel)
    (case iT_TooLarge => first | k_is | kernel_rfl | decide +kernel)
    (case iL_TooLarge => first | k_is | kernel_rfl | decide +kernel)
    (case iD_TooLarge => first | k_is | kernel_rfl | decide +kernel)
    (case iK_TooLarge => first | k_is | kernel_rfl | decide +kernel)
    (case iO_TooLarge => first | k_is | kernel_rfl | decide +kernel)
    (case iA_TooLarge => first | k_is | kernel_rfl | decide +kernel)
    (case iB_TooLarge => first | k_is | kernel_rfl | decide +kernel)
    (case iY_TooLarge => first | k_is | kernel_rfl | decide +kernel)
    (case iE_TooLarge => first | k_is | kernel_rfl | decide +kernel)
    (case iN_TooLarge => first | k_is | kernel_rfl | decide +kernel)
    (case e0_TooLarge => first | k_is | kernel_rfl | decide +kernel)
    (case eg_TooLarge => first | k_is | kernel_rfl | decide +kernel)
    (case et_TooLarge => first | k_is | kernel_rfl | decide +kernel)
    (case es_TooLarge => first | k_is | kernel_rfl | decide +kernel)
    (case ed_TooLarge => first | k_is | kernel_rfl | decide +kernel)
    (case ea_TooLarge => first | k_is | kernel_rfl | decide +kernel)
    (case en_TooLarge => first | k_is | kernel_rfl | decide +kernel)
    (case ek_TooLarge => first | k_is | kernel_rfl | decide +kernel)
    (case em_TooLarge => first | k_is | kernel_rfl | decide +kernel)
    (case kit_TooLarge_BadPlan_BadWish_TooFew_TooFull_TooMuch => first | k_is | kernel_rfl | decide +kernel)
    (case kit_TooLarge_TooLarge => first | k_is | kernel_rfl | decide +kernel)
    (case kit_TooLarge_ValueError => first | k_is | kernel_rfl | decide +kernel)
    (case no_TooLarge_bound => first | k_is | kernel_rfl | decide +kernel)
    (case xm_TooLarge_DrawerError => first | k_is | kernel_rfl | decide +kernel)
    (case pg_Search => first | k_is | kernel_rfl | decide +kernel)
    (case hd_Search => first | k_is | kernel_rfl | decide +kernel)
    (case po_Search => first | k_is | kernel_rfl | decide +kernel)
    (case sa_Search => first | k_is | kernel_rfl | decide +kernel)
    (case oa_Search => first | k_is | kernel_rfl | decide +kernel)
    (case on_Search => first | k_is | kernel_rfl | decide +kernel)
    (case ot_Search => first | k_is | kernel_rfl | decide +kernel)
    (case om_Search => first | k_is | kernel_rfl | decide +kernel)
    (case ok_Search => first | k_is | kernel_rfl | decide +kernel)
    (case mk_Search => first | k_is | kernel_rfl | decide +kernel)
    (case kc_Search => first | k_is | kernel_rfl | decide +kernel)
    (case m5 => first | k_is | kernel_rfl | decide +kernel)
    (case t5 => first | k_is | kernel_rfl | decide +kernel)
    (case l5 => first | k_is | kernel_rfl | decide +kernel)
    (case c5 => first | k_is | kernel_rfl | decide +kernel)
    (case k5 => first | k_is | kernel_rfl | decide +kernel)
    (case m15 => first | k_is | kernel_rfl | decide +kernel)
    (case t15 => first | k_is | kernel_rfl | decide +kernel)
    (case l15 => first | k_is | kernel_rfl | decide +kernel)
    (case c15 => first | k_is | kernel_rfl | decide +kernel)
    (case k15 => first | k_is | kernel_rfl | decide +kernel)
    (case m17 => first | k_is | kernel_rfl | decide +kernel)
    (case t17 => first | k_is | kernel_rfl | decide +kernel)
    (case l17 => first | k_is | kernel_rfl | decide +kernel)
    (case c17 => first | k_is | kernel_rfl | decide +kernel)
    (case k17 => first | k_is | kernel_rfl | decide +kernel)
    (case m18 => first | k_is | kernel_rfl | decide +kernel)
    (case t18 => first | k_is | kernel_rfl | decide +kernel)
    (case l18 => first | k_is | kernel_rfl | decide +kernel)
    (case c18 => first | k_is | kernel_rfl | decide +kernel)
    (case k18 => first | k_is | kernel_rfl | decide +kernel)
    (case no_Search_known => first | k_is | kernel_rfl | decide +kernel)
    (case no_Search_needs => first | k_is | kernel_rfl | decide +kernel)
    (case no_Search_totals => first | k_is | kernel_rfl | decide +kernel)
