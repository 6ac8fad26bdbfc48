import PyProof.Rows.All
import Wide.All
import OpenK.AllK
import Wide.FinOn
import KE.KTurns
import KE.KDictList
import KE.KItemsList
import KE.BitLaws
import PySem.Challenge.RW_nu0269_01
open PySem PySem.W PySem.Calls PyProof.Rows
set_option Elab.async false
set_option maxRecDepth 100000
set_option linter.unusedVariables false
set_option linter.unusedSimpArgs false
set_option maxHeartbeats 8000000
set_option compiler.extract_closed false
namespace Mine
noncomputable section
noncomputable def klit {α : Type} {a : α} (b : α) (_ : a = b) : α := b
noncomputable def tm (i : Nat) : Stmt := (PySem.Challenge.pw_nu0269_01.main.body[i]?).getD (.Pass ⟨0, 0, 0, 0⟩)
noncomputable def cm (i j : Nat) : Stmt := match tm i with
  | .ClassDef _ _ _ b .. => (b[j]?).getD (.Pass ⟨0, 0, 0, 0⟩)
  | _ => .Pass ⟨0, 0, 0, 0⟩
noncomputable def ga : Stmt → Arguments
  | .FunctionDef _ a .. => a
  | _ => default
noncomputable def gb : Stmt → List Stmt
  | .FunctionDef _ _ b .. => b
  | _ => []
noncomputable def gc : Stmt → Scope
  | .FunctionDef _ _ _ _ _ _ s .. => s
  | _ => default
noncomputable def ka0 : Arguments := by refine' klit (a := ga (tm 0)) _ ?h; case h => (conv => lhs; whnf)
noncomputable def kb0 : List Stmt := by refine' klit (a := gb (tm 0)) _ ?h; case h => (conv => lhs; whnf)
noncomputable def kc0 : Scope := by refine' klit (a := gc (tm 0)) _ ?h; case h => (conv => lhs; whnf)
noncomputable def ka1 : Arguments := by refine' klit (a := ga (tm 4)) _ ?h; case h => (conv => lhs; whnf)
noncomputable def kb1 : List Stmt := by refine' klit (a := gb (tm 4)) _ ?h; case h => (conv => lhs; whnf)
noncomputable def kc1 : Scope := by refine' klit (a := gc (tm 4)) _ ?h; case h => (conv => lhs; whnf)
noncomputable def ka2 : Arguments := by refine' klit (a := ga (tm 5)) _ ?h; case h => (conv => lhs; whnf)
noncomputable def kb2 : List Stmt := by refine' klit (a := gb (tm 5)) _ ?h; case h => (conv => lhs; whnf)
noncomputable def kc2 : Scope := by refine' klit (a := gc (tm 5)) _ ?h; case h => (conv => lhs; whnf)
noncomputable def ka3 : Arguments := by refine' klit (a := ga (cm 6 0)) _ ?h; case h => (conv => lhs; whnf)
noncomputable def kb3 : List Stmt := by refine' klit (a := gb (cm 6 0)) _ ?h; case h => (conv => lhs; whnf)
noncomputable def kc3 : Scope := by refine' klit (a := gc (cm 6 0)) _ ?h; case h => (conv => lhs; whnf)
noncomputable def ka4 : Arguments := by refine' klit (a := ga (cm 6 1)) _ ?h; case h => (conv => lhs; whnf)
noncomputable def kb4 : List Stmt := by refine' klit (a := gb (cm 6 1)) _ ?h; case h => (conv => lhs; whnf)
noncomputable def kc4 : Scope := by refine' klit (a := gc (cm 6 1)) _ ?h; case h => (conv => lhs; whnf)
noncomputable def ka5 : Arguments := by refine' klit (a := ga (cm 6 2)) _ ?h; case h => (conv => lhs; whnf)
noncomputable def kb5 : List Stmt := by refine' klit (a := gb (cm 6 2)) _ ?h; case h => (conv => lhs; whnf)
noncomputable def kc5 : Scope := by refine' klit (a := gc (cm 6 2)) _ ?h; case h => (conv => lhs; whnf)
noncomputable def ka6 : Arguments := by refine' klit (a := ga (cm 6 3)) _ ?h; case h => (conv => lhs; whnf)
noncomputable def kb6 : List Stmt := by refine' klit (a := gb (cm 6 3)) _ ?h; case h => (conv => lhs; whnf)
noncomputable def kc6 : Scope := by refine' klit (a := gc (cm 6 3)) _ ?h; case h => (conv => lhs; whnf)
noncomputable def ka7 : Arguments := by refine' klit (a := ga (cm 6 4)) _ ?h; case h => (conv => lhs; whnf)
noncomputable def kb7 : List Stmt := by refine' klit (a := gb (cm 6 4)) _ ?h; case h => (conv => lhs; whnf)
noncomputable def kc7 : Scope := by refine' klit (a := gc (cm 6 4)) _ ?h; case h => (conv => lhs; whnf)
noncomputable def ka8 : Arguments := by refine' klit (a := ga (cm 6 5)) _ ?h; case h => (conv => lhs; whnf)
noncomputable def kb8 : List Stmt := by refine' klit (a := gb (cm 6 5)) _ ?h; case h => (conv => lhs; whnf)
noncomputable def kc8 : Scope := by refine' klit (a := gc (cm 6 5)) _ ?h; case h => (conv => lhs; whnf)
noncomputable def ka9 : Arguments := by refine' klit (a := ga (cm 6 6)) _ ?h; case h => (conv => lhs; whnf)
noncomputable def kb9 : List Stmt := by refine' klit (a := gb (cm 6 6)) _ ?h; case h => (conv => lhs; whnf)
noncomputable def kc9 : Scope := by refine' klit (a := gc (cm 6 6)) _ ?h; case h => (conv => lhs; whnf)
noncomputable def ka10 : Arguments := by refine' klit (a := ga (cm 6 7)) _ ?h; case h => (conv => lhs; whnf)
noncomputable def kb10 : List Stmt := by refine' klit (a := gb (cm 6 7)) _ ?h; case h => (conv => lhs; whnf)
noncomputable def kc10 : Scope := by refine' klit (a := gc (cm 6 7)) _ ?h; case h => (conv => lhs; whnf)
noncomputable def ka11 : Arguments := by refine' klit (a := ga (cm 6 8)) _ ?h; case h => (conv => lhs; whnf)
noncomputable def kb11 : List Stmt := by refine' klit (a := gb (cm 6 8)) _ ?h; case h => (conv => lhs; whnf)
noncomputable def kc11 : Scope := by refine' klit (a := gc (cm 6 8)) _ ?h; case h => (conv => lhs; whnf)
noncomputable def ka12 : Arguments := by refine' klit (a := ga (cm 6 9)) _ ?h; case h => (conv => lhs; whnf)
noncomputable def kb12 : List Stmt := by refine' klit (a := gb (cm 6 9)) _ ?h; case h => (conv => lhs; whnf)
noncomputable def kc12 : Scope := by refine' klit (a := gc (cm 6 9)) _ ?h; case h => (conv => lhs; whnf)
noncomputable def ka13 : Arguments := by refine' klit (a := ga (cm 6 10)) _ ?h; case h => (conv => lhs; whnf)
noncomputable def kb13 : List Stmt := by refine' klit (a := gb (cm 6 10)) _ ?h; case h => (conv => lhs; whnf)
noncomputable def kc13 : Scope := by refine' klit (a := gc (cm 6 10)) _ ?h; case h => (conv => lhs; whnf)
noncomputable def ka14 : Arguments := by refine' klit (a := ga (cm 6 11)) _ ?h; case h => (conv => lhs; whnf)
noncomputable def kb14 : List Stmt := by refine' klit (a := gb (cm 6 11)) _ ?h; case h => (conv => lhs; whnf)
noncomputable def kc14 : Scope := by refine' klit (a := gc (cm 6 11)) _ ?h; case h => (conv => lhs; whnf)
noncomputable def ka15 : Arguments := by refine' klit (a := ga (cm 6 12)) _ ?h; case h => (conv => lhs; whnf)
noncomputable def kb15 : List Stmt := by refine' klit (a := gb (cm 6 12)) _ ?h; case h => (conv => lhs; whnf)
noncomputable def kc15 : Scope := by refine' klit (a := gc (cm 6 12)) _ ?h; case h => (conv => lhs; whnf)
noncomputable def ka16 : Arguments := by refine' klit (a := ga (cm 6 13)) _ ?h; case h => (conv => lhs; whnf)
noncomputable def kb16 : List Stmt := by refine' klit (a := gb (cm 6 13)) _ ?h; case h => (conv => lhs; whnf)
noncomputable def kc16 : Scope := by refine' klit (a := gc (cm 6 13)) _ ?h; case h => (conv => lhs; whnf)
noncomputable def ka17 : Arguments := by refine' klit (a := ga (cm 8 0)) _ ?h; case h => (conv => lhs; whnf)
noncomputable def kb17 : List Stmt := by refine' klit (a := gb (cm 8 0)) _ ?h; case h => (conv => lhs; whnf)
noncomputable def kc17 : Scope := by refine' klit (a := gc (cm 8 0)) _ ?h; case h => (conv => lhs; whnf)
noncomputable def ka18 : Arguments := by refine' klit (a := ga (cm 8 1)) _ ?h; case h => (conv => lhs; whnf)
noncomputable def kb18 : List Stmt := by refine' klit (a := gb (cm 8 1)) _ ?h; case h => (conv => lhs; whnf)
noncomputable def kc18 : Scope := by refine' klit (a := gc (cm 8 1)) _ ?h; case h => (conv => lhs; whnf)
noncomputable def ka19 : Arguments := by refine' klit (a := ga (cm 8 2)) _ ?h; case h => (conv => lhs; whnf)
noncomputable def kb19 : List Stmt := by refine' klit (a := gb (cm 8 2)) _ ?h; case h => (conv => lhs; whnf)
noncomputable def kc19 : Scope := by refine' klit (a := gc (cm 8 2)) _ ?h; case h => (conv => lhs; whnf)
noncomputable def ka20 : Arguments := by refine' klit (a := ga (cm 8 3)) _ ?h; case h => (conv => lhs; whnf)
noncomputable def kb20 : List Stmt := by refine' klit (a := gb (cm 8 3)) _ ?h; case h => (conv => lhs; whnf)
noncomputable def kc20 : Scope := by refine' klit (a := gc (cm 8 3)) _ ?h; case h => (conv => lhs; whnf)
noncomputable def ka21 : Arguments := by refine' klit (a := ga (cm 8 4)) _ ?h; case h => (conv => lhs; whnf)
noncomputable def kb21 : List Stmt := by refine' klit (a := gb (cm 8 4)) _ ?h; case h => (conv => lhs; whnf)
noncomputable def kc21 : Scope := by refine' klit (a := gc (cm 8 4)) _ ?h; case h => (conv => lhs; whnf)
noncomputable def ka22 : Arguments := by refine' klit (a := ga (cm 8 5)) _ ?h; case h => (conv => lhs; whnf)
noncomputable def kb22 : List Stmt := by refine' klit (a := gb (cm 8 5)) _ ?h; case h => (conv => lhs; whnf)
noncomputable def kc22 : Scope := by refine' klit (a := gc (cm 8 5)) _ ?h; case h => (conv => lhs; whnf)
noncomputable def ka23 : Arguments := by refine' klit (a := ga (cm 8 6)) _ ?h; case h => (conv => lhs; whnf)
noncomputable def kb23 : List Stmt := by refine' klit (a := gb (cm 8 6)) _ ?h; case h => (conv => lhs; whnf)
noncomputable def kc23 : Scope := by refine' klit (a := gc (cm 8 6)) _ ?h; case h => (conv => lhs; whnf)
noncomputable def ka24 : Arguments := by refine' klit (a := ga (cm 8 7)) _ ?h; case h => (conv => lhs; whnf)
noncomputable def kb24 : List Stmt := by refine' klit (a := gb (cm 8 7)) _ ?h; case h => (conv => lhs; whnf)
noncomputable def kc24 : Scope := by refine' klit (a := gc (cm 8 7)) _ ?h; case h => (conv => lhs; whnf)
noncomputable def ka25 : Arguments := by refine' klit (a := ga (cm 8 8)) _ ?h; case h => (conv => lhs; whnf)
noncomputable def kb25 : List Stmt := by refine' klit (a := gb (cm 8 8)) _ ?h; case h => (conv => lhs; whnf)
noncomputable def kc25 : Scope := by refine' klit (a := gc (cm 8 8)) _ ?h; case h => (conv => lhs; whnf)
noncomputable def ka26 : Arguments := by refine' klit (a := ga (cm 8 9)) _ ?h; case h => (conv => lhs; whnf)
noncomputable def kb26 : List Stmt := by refine' klit (a := gb (cm 8 9)) _ ?h; case h => (conv => lhs; whnf)
noncomputable def kc26 : Scope := by refine' klit (a := gc (cm 8 9)) _ ?h; case h => (conv => lhs; whnf)
noncomputable def ka27 : Arguments := by refine' klit (a := ga (cm 8 10)) _ ?h; case h => (conv => lhs; whnf)
noncomputable def kb27 : List Stmt := by refine' klit (a := gb (cm 8 10)) _ ?h; case h => (conv => lhs; whnf)
noncomputable def kc27 : Scope := by refine' klit (a := gc (cm 8 10)) _ ?h; case h => (conv => lhs; whnf)
noncomputable def ka28 : Arguments := by refine' klit (a := ga (cm 8 11)) _ ?h; case h => (conv => lhs; whnf)
noncomputable def kb28 : List Stmt := by refine' klit (a := gb (cm 8 11)) _ ?h; case h => (conv => lhs; whnf)
noncomputable def kc28 : Scope := by refine' klit (a := gc (cm 8 11)) _ ?h; case h => (conv => lhs; whnf)
noncomputable def ka29 : Arguments := by refine' klit (a := ga (cm 8 12)) _ ?h; case h => (conv => lhs; whnf)
noncomputable def kb29 : List Stmt := by refine' klit (a := gb (cm 8 12)) _ ?h; case h => (conv => lhs; whnf)
noncomputable def kc29 : Scope := by refine' klit (a := gc (cm 8 12)) _ ?h; case h => (conv => lhs; whnf)
noncomputable def ka30 : Arguments := by refine' klit (a := ga (cm 8 13)) _ ?h; case h => (conv => lhs; whnf)
noncomputable def kb30 : List Stmt := by refine' klit (a := gb (cm 8 13)) _ ?h; case h => (conv => lhs; whnf)
noncomputable def kc30 : Scope := by refine' klit (a := gc (cm 8 13)) _ ?h; case h => (conv => lhs; whnf)
noncomputable def ka31 : Arguments := by refine' klit (a := ga (tm 10)) _ ?h; case h => (conv => lhs; whnf)
noncomputable def kb31 : List Stmt := by refine' klit (a := gb (tm 10)) _ ?h; case h => (conv => lhs; whnf)
noncomputable def kc31 : Scope := by refine' klit (a := gc (tm 10)) _ ?h; case h => (conv => lhs; whnf)
noncomputable def ka32 : Arguments := by refine' klit (a := ga (tm 11)) _ ?h; case h => (conv => lhs; whnf)
noncomputable def kb32 : List Stmt := by refine' klit (a := gb (tm 11)) _ ?h; case h => (conv => lhs; whnf)
noncomputable def kc32 : Scope := by refine' klit (a := gc (tm 11)) _ ?h; case h => (conv => lhs; whnf)
noncomputable def ka33 : Arguments := by refine' klit (a := ga (tm 12)) _ ?h; case h => (conv => lhs; whnf)
noncomputable def kb33 : List Stmt := by refine' klit (a := gb (tm 12)) _ ?h; case h => (conv => lhs; whnf)
noncomputable def kc33 : Scope := by refine' klit (a := gc (tm 12)) _ ?h; case h => (conv => lhs; whnf)
noncomputable def ka34 : Arguments := by refine' klit (a := ga (tm 13)) _ ?h; case h => (conv => lhs; whnf)
noncomputable def kb34 : List Stmt := by refine' klit (a := gb (tm 13)) _ ?h; case h => (conv => lhs; whnf)
noncomputable def kc34 : Scope := by refine' klit (a := gc (tm 13)) _ ?h; case h => (conv => lhs; whnf)
noncomputable def ka35 : Arguments := by refine' klit (a := ga (tm 14)) _ ?h; case h => (conv => lhs; whnf)
noncomputable def kb35 : List Stmt := by refine' klit (a := gb (tm 14)) _ ?h; case h => (conv => lhs; whnf)
noncomputable def kc35 : Scope := by refine' klit (a := gc (tm 14)) _ ?h; case h => (conv => lhs; whnf)
noncomputable def ka36 : Arguments := by refine' klit (a := ga (tm 15)) _ ?h; case h => (conv => lhs; whnf)
noncomputable def kb36 : List Stmt := by refine' klit (a := gb (tm 15)) _ ?h; case h => (conv => lhs; whnf)
noncomputable def kc36 : Scope := by refine' klit (a := gc (tm 15)) _ ?h; case h => (conv => lhs; whnf)
noncomputable def ka37 : Arguments := by refine' klit (a := ga (tm 16)) _ ?h; case h => (conv => lhs; whnf)
noncomputable def kb37 : List Stmt := by refine' klit (a := gb (tm 16)) _ ?h; case h => (conv => lhs; whnf)
noncomputable def kc37 : Scope := by refine' klit (a := gc (tm 16)) _ ?h; case h => (conv => lhs; whnf)
noncomputable def ka38 : Arguments := by refine' klit (a := ga (tm 17)) _ ?h; case h => (conv => lhs; whnf)
noncomputable def kb38 : List Stmt := by refine' klit (a := gb (tm 17)) _ ?h; case h => (conv => lhs; whnf)
noncomputable def kc38 : Scope := by refine' klit (a := gc (tm 17)) _ ?h; case h => (conv => lhs; whnf)
noncomputable def ka39 : Arguments := by refine' klit (a := ga (tm 18)) _ ?h; case h => (conv => lhs; whnf)
noncomputable def kb39 : List Stmt := by refine' klit (a := gb (tm 18)) _ ?h; case h => (conv => lhs; whnf)
noncomputable def kc39 : Scope := by refine' klit (a := gc (tm 18)) _ ?h; case h => (conv => lhs; whnf)
noncomputable def ka40 : Arguments := by refine' klit (a := ga (tm 19)) _ ?h; case h => (conv => lhs; whnf)
noncomputable def kb40 : List Stmt := by refine' klit (a := gb (tm 19)) _ ?h; case h => (conv => lhs; whnf)
noncomputable def kc40 : Scope := by refine' klit (a := gc (tm 19)) _ ?h; case h => (conv => lhs; whnf)
abbrev kz (s : String) : Str := Str.ofString s
abbrev kh (P : Params) (s : Str) := PyData.keyHash P s
noncomputable def hd.kraw : Params → Frag := fun P => [(nat_lit 2, { cls := .none, data := Data.dict #[] }), (nat_lit 3, { cls := .type "dict", data := Data.dict #[{ hash := kh P (kz "__name__"), key := .str (kz "__name__") 165, val := .str (kz "law_nu0269_01") 498 }, { hash := kh P (kz "__doc__"), key := .str (kz "__doc__") 166, val := .none }, { hash := kh P (kz "__package__"), key := .str (kz "__package__") 167, val := .none }, { hash := kh P (kz "__loader__"), key := .str (kz "__loader__") 168, val := .builtin "__main__.__loader__#\x6fpaque" }, { hash := kh P (kz "__spec__"), key := .str (kz "__spec__") 169, val := .none }, { hash := kh P (kz "__annotations__"), key := .str (kz "__annotations__") 170, val := .ref 6 }, { hash := kh P (kz "__builtins__"), key := .str (kz "__builtins__") 171, val := .ref 4 }, { hash := kh P (kz "__file__"), key := .str (kz "__file__") 173, val := .str (kz "/claim/cut.py") 172 }, { hash := kh P (kz "__cached__"), key := .str (kz "__cached__") 174, val := .none }, { hash := kh P (kz "_wall"), key := .str (kz "_wall") 193, val := .ref 21 }, { hash := kh P (kz "YES"), key := .str (kz "YES") 197, val := .int 1 196 }, { hash := kh P (kz "NO"), key := .str (kz "NO") 200, val := .int (-1) 199 }, { hash := kh P (kz "place_of"), key := .str (kz "place_of") 208, val := .ref 28 }, { hash := kh P (kz "trimmed"), key := .str (kz "trimmed") 216, val := .ref 35 }, { hash := kh P (kz "Binary"), key := .str (kz "Binary") 352, val := .ref 133 }, { hash := kh P (kz "Circuit"), key := .str (kz "Circuit") 497, val := .ref 245 }, { hash := kh P (kz "_law_draw"), key := .str (kz "_law_draw") 508, val := .ref 256 }, { hash := kh P (kz "_law_gate"), key := .str (kz "_law_gate") 518, val := .ref 263 }, { hash := kh P (kz "_law_truths"), key := .str (kz "_law_truths") 529, val := .ref 270 }, { hash := kh P (kz "_law_counted"), key := .str (kz "_law_counted") 535, val := .ref 275 }, { hash := kh P (kz "_law_number"), key := .str (kz "_law_number") 541, val := .ref 280 }, { hash := kh P (kz "_law_reckoned"), key := .str (kz "_law_reckoned") 547, val := .ref 285 }, { hash := kh P (kz "_law_known"), key := .str (kz "_law_known") 553, val := .ref 290 }, { hash := kh P (kz "_law_is_number"), key := .str (kz "_law_is_number") 559, val := .ref 295 }, { hash := kh P (kz "_law_is_gate"), key := .str (kz "_law_is_gate") 565, val := .ref 300 }, { hash := kh P (kz "law"), key := .str (kz "law") 571, val := .ref 305 }] 26 }), (nat_lit 15, { cls := .type "tuple", data := Data.seq #[] }), (nat_lit 17, { cls := .type "tuple", data := Data.seq #[.str (kz "k") 190] }), (nat_lit 18, { cls := .type "tuple", data := Data.seq #[] }), (nat_lit 20, { cls := .type "code", data := Data.fields #[.str (kz "_wall") 187, .str (kz "_wall") 188, .str (kz "/claim/cut.py") 189, .int 1 0, .int 1 0, .int 0 0, .int 0 0, .int 3 0, .ref 15, .bool true, .int 181 0, .ref 16, .none, .ref 17, .ref 18, .ref 19, .int 191 0, .int 1 0, .str (kz "/claim/cut.py") 192] }), (nat_lit 21, { cls := .type "function", data := Data.func { name := kz "_wall", qualname := kz "_wall", params := ka0, body := .stmts kb0, scope := kc0, globals := 3, closure := [], defaults := .none, kwdefaults := .none, pyModule := .str (kz "__main__") 164, code := .ref 20 } }), (nat_lit 22, { cls := .type "tuple", data := Data.seq #[] }), (nat_lit 24, { cls := .type "tuple", data := Data.seq #[.str (kz "a") 204, .str (kz "i") 205] }), (nat_lit 25, { cls := .type "tuple", data := Data.seq #[] }), (nat_lit 27, { cls := .type "code", data := Data.fields #[.str (kz "place_of") 201, .str (kz "place_of") 202, .str (kz "/claim/cut.py") 203, .int 7 0, .int 2 0, .int 0 0, .int 0 0, .int 3 0, .ref 22, .bool true, .int 181 0, .ref 23, .none, .ref 24, .ref 25, .ref 26, .int 206 0, .int 7 0, .str (kz "/claim/cut.py") 207] }), (nat_lit 28, { cls := .type "function", data := Data.func { name := kz "place_of", qualname := kz "place_of", params := ka1, body := .stmts kb1, scope := kc1, globals := 3, closure := [], defaults := .none, kwdefaults := .none, pyModule := .str (kz "relfinder.binary") 194, code := .ref 27 } }), (nat_lit 29, { cls := .type "tuple", data := Data.seq #[] }), (nat_lit 31, { cls := .type "tuple", data := Data.seq #[.str (kz "a") 212, .str (kz "many") 213] }), (nat_lit 32, { cls := .type "tuple", data := Data.seq #[] }), (nat_lit 34, { cls := .type "code", data := Data.fields #[.str (kz "trimmed") 209, .str (kz "trimmed") 210, .str (kz "/claim/cut.py") 211, .int 9 0, .int 1 0, .int 0 0, .int 0 0, .int 3 0, .ref 29, .bool true, .int 181 0, .ref 30, .none, .ref 31, .ref 32, .ref 33, .int 214 0, .int 9 0, .str (kz "/claim/cut.py") 215] }), (nat_lit 35, { cls := .type "function", data := Data.func { name := kz "trimmed", qualname := kz "trimmed", params := ka2, body := .stmts kb2, scope := kc2, globals := 3, closure := [], defaults := .none, kwdefaults := .none, pyModule := .str (kz "relfinder.binary") 194, code := .ref 34 } }), (nat_lit 43, { cls := .type "tuple", data := Data.seq #[] }), (nat_lit 45, { cls := .type "tuple", data := Data.seq #[.str (kz "self") 232, .str (kz "circuit") 233] }), (nat_lit 46, { cls := .type "tuple", data := Data.seq #[] }), (nat_lit 48, { cls := .type "code", data := Data.fields #[.str (kz "__init__") 229, .str (kz "Binary.__init__") 230, .str (kz "/claim/cut.py") 231, .int 16 0, .int 2 0, .int 0 0, .int 0 0, .int 3 0, .ref 43, .bool true, .int 181 0, .ref 44, .none, .ref 45, .ref 46, .ref 47, .int 234 0, .int 16 0, .str (kz "/claim/cut.py") 235] }), (nat_lit 49, { cls := .type "function", data := Data.func { name := kz "__init__", qualname := kz "Binary.__init__", params := ka3, body := .stmts kb3, scope := kc3, globals := 3, closure := [], defaults := .none, kwdefaults := .none, pyModule := .str (kz "relfinder.binary") 194, code := .ref 48 } }), (nat_lit 50, { cls := .type "tuple", data := Data.seq #[] }), (nat_lit 52, { cls := .type "tuple", data := Data.seq #[.str (kz "self") 240, .str (kz "k") 241, .str (kz "found") 242] }), (nat_lit 53, { cls := .type "tuple", data := Data.seq #[] }), (nat_lit 55, { cls := .type "code", data := Data.fields #[.str (kz "constant") 237, .str (kz "Binary.constant") 238, .str (kz "/claim/cut.py") 239, .int 19 0, .int 2 0, .int 0 0, .int 0 0, .int 3 0, .ref 50, .bool true, .int 181 0, .ref 51, .none, .ref 52, .ref 53, .ref 54, .int 243 0, .int 19 0, .str (kz "/claim/cut.py") 244] }), (nat_lit 56, { cls := .type "function", data := Data.func { name := kz "constant", qualname := kz "Binary.constant", params := ka4, body := .stmts kb4, scope := kc4, globals := 3, closure := [], defaults := .none, kwdefaults := .none, pyModule := .str (kz "relfinder.binary") 194, code := .ref 55 } }), (nat_lit 57, { cls := .type "tuple", data := Data.seq #[] }), (nat_lit 59, { cls := .type "tuple", data := Data.seq #[.str (kz "self") 249, .str (kz "a") 250, .str (kz "b") 251, .str (kz "carry") 252, .str (kz "found") 253, .str (kz "i") 254, .str (kz "x") 255, .str (kz "y") 256, .str (kz "odd") 257] }), (nat_lit 60, { cls := .type "tuple", data := Data.seq #[] }), (nat_lit 62, { cls := .type "code", data := Data.fields #[.str (kz "added") 246, .str (kz "Binary.added") 247, .str (kz "/claim/cut.py") 248, .int 26 0, .int 4 0, .int 0 0, .int 0 0, .int 3 0, .ref 57, .bool true, .int 181 0, .ref 58, .none, .ref 59, .ref 60, .ref 61, .int 258 0, .int 26 0, .str (kz "/claim/cut.py") 259] }), (nat_lit 63, { cls := .type "function", data := Data.func { name := kz "added", qualname := kz "Binary.added", params := ka5, body := .stmts kb5, scope := kc5, globals := 3, closure := [], defaults := .none, kwdefaults := .none, pyModule := .str (kz "relfinder.binary") 194, code := .ref 62 } }), (nat_lit 64, { cls := .type "tuple", data := Data.seq #[] }), (nat_lit 66, { cls := .type "tuple", data := Data.seq #[.str (kz "self") 264, .str (kz "a") 265, .str (kz "b") 266] }), (nat_lit 67, { cls := .type "tuple", data := Data.seq #[] }), (nat_lit 69, { cls := .type "code", data := Data.fields #[.str (kz "plus") 261, .str (kz "Binary.plus") 262, .str (kz "/claim/cut.py") 263, .int 35 0, .int 3 0, .int 0 0, .int 0 0, .int 3 0, .ref 64, .bool true, .int 181 0, .ref 65, .none, .ref 66, .ref 67, .ref 68, .int 267 0, .int 35 0, .str (kz "/claim/cut.py") 268] }), (nat_lit 70, { cls := .type "function", data := Data.func { name := kz "plus", qualname := kz "Binary.plus", params := ka6, body := .stmts kb6, scope := kc6, globals := 3, closure := [], defaults := .none, kwdefaults := .none, pyModule := .str (kz "relfinder.binary") 194, code := .ref 69 } }), (nat_lit 71, { cls := .type "tuple", data := Data.seq #[] }), (nat_lit 74, { cls := .type "code", data := Data.fields #[.str (kz "less") 270, .str (kz "Binary.less") 271, .str (kz "/claim/cut.py") 272, .int 38 0, .int 3 0, .int 0 0, .int 0 0, .int 3 0, .ref 71, .bool true, .int 181 0, .ref 72, .none, .none, .none, .ref 73, .int 273 0, .int 38 0, .str (kz "/claim/cut.py") 274] }), (nat_lit 75, { cls := .type "function", data := Data.func { name := kz "less", qualname := kz "Binary.less", params := ka7, body := .stmts kb7, scope := kc7, globals := 3, closure := [], defaults := .none, kwdefaults := .none, pyModule := .str (kz "relfinder.binary") 194, code := .ref 74 } }), (nat_lit 76, { cls := .type "tuple", data := Data.seq #[] }), (nat_lit 78, { cls := .type "tuple", data := Data.seq #[.str (kz "self") 279, .str (kz "a") 280] }), (nat_lit 79, { cls := .type "tuple", data := Data.seq #[] }), (nat_lit 81, { cls := .type "code", data := Data.fields #[.str (kz "negated") 276, .str (kz "Binary.negated") 277, .str (kz "/claim/cut.py") 278, .int 41 0, .int 2 0, .int 0 0, .int 0 0, .int 3 0, .ref 76, .bool true, .int 181 0, .ref 77, .none, .ref 78, .ref 79, .ref 80, .int 281 0, .int 41 0, .str (kz "/claim/cut.py") 282] }), (nat_lit 82, { cls := .type "function", data := Data.func { name := kz "negated", qualname := kz "Binary.negated", params := ka8, body := .stmts kb8, scope := kc8, globals := 3, closure := [], defaults := .none, kwdefaults := .none, pyModule := .str (kz "relfinder.binary") 194, code := .ref 81 } }), (nat_lit 83, { cls := .type "tuple", data := Data.seq #[] }), (nat_lit 86, { cls := .type "code", data := Data.fields #[.str (kz "total") 284, .str (kz "Binary.total") 285, .str (kz "/claim/cut.py") 286, .int 44 0, .int 2 0, .int 0 0, .int 0 0, .int 3 0, .ref 83, .bool true, .int 181 0, .ref 84, .none, .none, .none, .ref 85, .int 287 0, .int 44 0, .str (kz "/claim/cut.py") 288] }), (nat_lit 87, { cls := .type "function", data := Data.func { name := kz "total", qualname := kz "Binary.total", params := ka9, body := .stmts kb9, scope := kc9, globals := 3, closure := [], defaults := .none, kwdefaults := .none, pyModule := .str (kz "relfinder.binary") 194, code := .ref 86 } }), (nat_lit 88, { cls := .type "tuple", data := Data.seq #[] }), (nat_lit 91, { cls := .type "code", data := Data.fields #[.str (kz "of_gates") 290, .str (kz "Binary.of_gates") 291, .str (kz "/claim/cut.py") 292, .int 51 0, .int 2 0, .int 0 0, .int 0 0, .int 3 0, .ref 88, .bool true, .int 181 0, .ref 89, .none, .none, .none, .ref 90, .int 293 0, .int 51 0, .str (kz "/claim/cut.py") 294] }), (nat_lit 92, { cls := .type "function", data := Data.func { name := kz "of_gates", qualname := kz "Binary.of_gates", params := ka10, body := .stmts kb10, scope := kc10, globals := 3, closure := [], defaults := .none, kwdefaults := .none, pyModule := .str (kz "relfinder.binary") 194, code := .ref 91 } }), (nat_lit 93, { cls := .type "tuple", data := Data.seq #[] }), (nat_lit 95, { cls := .type "tuple", data := Data.seq #[.str (kz "self") 299, .str (kz "c") 300, .str (kz "a") 301] }), (nat_lit 96, { cls := .type "tuple", data := Data.seq #[] }), (nat_lit 98, { cls := .type "code", data := Data.fields #[.str (kz "masked") 296, .str (kz "Binary.masked") 297, .str (kz "/claim/cut.py") 298, .int 54 0, .int 3 0, .int 0 0, .int 0 0, .int 3 0, .ref 93, .bool true, .int 181 0, .ref 94, .none, .ref 95, .ref 96, .ref 97, .int 302 0, .int 54 0, .str (kz "/claim/cut.py") 303] }), (nat_lit 99, { cls := .type "function", data := Data.func { name := kz "masked", qualname := kz "Binary.masked", params := ka11, body := .stmts kb11, scope := kc11, globals := 3, closure := [], defaults := .none, kwdefaults := .none, pyModule := .str (kz "relfinder.binary") 194, code := .ref 98 } }), (nat_lit 100, { cls := .type "tuple", data := Data.seq #[] }), (nat_lit 102, { cls := .type "tuple", data := Data.seq #[.str (kz "self") 308, .str (kz "a") 309, .str (kz "b") 310] }), (nat_lit 103, { cls := .type "tuple", data := Data.seq #[] }), (nat_lit 105, { cls := .type "code", data := Data.fields #[.str (kz "times") 305, .str (kz "Binary.times") 306, .str (kz "/claim/cut.py") 307, .int 57 0, .int 3 0, .int 0 0, .int 0 0, .int 3 0, .ref 100, .bool true, .int 181 0, .ref 101, .none, .ref 102, .ref 103, .ref 104, .int 311 0, .int 57 0, .str (kz "/claim/cut.py") 312] }), (nat_lit 106, { cls := .type "function", data := Data.func { name := kz "times", qualname := kz "Binary.times", params := ka12, body := .stmts kb12, scope := kc12, globals := 3, closure := [], defaults := .none, kwdefaults := .none, pyModule := .str (kz "relfinder.binary") 194, code := .ref 105 } }), (nat_lit 107, { cls := .type "tuple", data := Data.seq #[] }), (nat_lit 110, { cls := .type "code", data := Data.fields #[.str (kz "chosen") 314, .str (kz "Binary.chosen") 315, .str (kz "/claim/cut.py") 316, .int 60 0, .int 4 0, .int 0 0, .int 0 0, .int 3 0, .ref 107, .bool true, .int 181 0, .ref 108, .none, .none, .none, .ref 109, .int 317 0, .int 60 0, .str (kz "/claim/cut.py") 318] }), (nat_lit 111, { cls := .type "function", data := Data.func { name := kz "chosen", qualname := kz "Binary.chosen", params := ka13, body := .stmts kb13, scope := kc13, globals := 3, closure := [], defaults := .none, kwdefaults := .none, pyModule := .str (kz "relfinder.binary") 194, code := .ref 110 } }), (nat_lit 112, { cls := .type "tuple", data := Data.seq #[] }), (nat_lit 114, { cls := .type "tuple", data := Data.seq #[.str (kz "self") 323, .str (kz "a") 324, .str (kz "b") 325] }), (nat_lit 115, { cls := .type "tuple", data := Data.seq #[] }), (nat_lit 117, { cls := .type "code", data := Data.fields #[.str (kz "below") 320, .str (kz "Binary.below") 321, .str (kz "/claim/cut.py") 322, .int 64 0, .int 3 0, .int 0 0, .int 0 0, .int 3 0, .ref 112, .bool true, .int 181 0, .ref 113, .none, .ref 114, .ref 115, .ref 116, .int 326 0, .int 64 0, .str (kz "/claim/cut.py") 327] }), (nat_lit 118, { cls := .type "function", data := Data.func { name := kz "below", qualname := kz "Binary.below", params := ka14, body := .stmts kb14, scope := kc14, globals := 3, closure := [], defaults := .none, kwdefaults := .none, pyModule := .str (kz "relfinder.binary") 194, code := .ref 117 } }), (nat_lit 119, { cls := .type "tuple", data := Data.seq #[] }), (nat_lit 121, { cls := .type "tuple", data := Data.seq #[.str (kz "self") 332, .str (kz "a") 333, .str (kz "b") 334] }), (nat_lit 122, { cls := .type "tuple", data := Data.seq #[] }), (nat_lit 124, { cls := .type "code", data := Data.fields #[.str (kz "at_most") 329, .str (kz "Binary.at_most") 330, .str (kz "/claim/cut.py") 331, .int 67 0, .int 3 0, .int 0 0, .int 0 0, .int 3 0, .ref 119, .bool true, .int 181 0, .ref 120, .none, .ref 121, .ref 122, .ref 123, .int 335 0, .int 67 0, .str (kz "/claim/cut.py") 336] }), (nat_lit 125, { cls := .type "function", data := Data.func { name := kz "at_most", qualname := kz "Binary.at_most", params := ka15, body := .stmts kb15, scope := kc15, globals := 3, closure := [], defaults := .none, kwdefaults := .none, pyModule := .str (kz "relfinder.binary") 194, code := .ref 124 } }), (nat_lit 126, { cls := .type "tuple", data := Data.seq #[] }), (nat_lit 129, { cls := .type "code", data := Data.fields #[.str (kz "equal") 338, .str (kz "Binary.equal") 339, .str (kz "/claim/cut.py") 340, .int 70 0, .int 3 0, .int 0 0, .int 0 0, .int 3 0, .ref 126, .bool true, .int 181 0, .ref 127, .none, .none, .none, .ref 128, .int 341 0, .int 70 0, .str (kz "/claim/cut.py") 342] }), (nat_lit 130, { cls := .type "function", data := Data.func { name := kz "equal", qualname := kz "Binary.equal", params := ka16, body := .stmts kb16, scope := kc16, globals := 3, closure := [], defaults := .none, kwdefaults := .none, pyModule := .str (kz "relfinder.binary") 194, code := .ref 129 } }), (nat_lit 131, { cls := .type "tuple", data := Data.seq #[.str (kz "circuit") 344] }), (nat_lit 132, { cls := .type "dict", data := Data.dict #[{ hash := kh P (kz "__module__"), key := .str (kz "__module__") 224, val := .str (kz "relfinder.binary") 194 }, { hash := kh P (kz "__firstlineno__"), key := .str (kz "__firstlineno__") 228, val := .int 14 227 }, { hash := kh P (kz "__init__"), key := .str (kz "__init__") 236, val := .ref 49 }, { hash := kh P (kz "constant"), key := .str (kz "constant") 245, val := .ref 56 }, { hash := kh P (kz "added"), key := .str (kz "added") 260, val := .ref 63 }, { hash := kh P (kz "plus"), key := .str (kz "plus") 269, val := .ref 70 }, { hash := kh P (kz "less"), key := .str (kz "less") 275, val := .ref 75 }, { hash := kh P (kz "negated"), key := .str (kz "negated") 283, val := .ref 82 }, { hash := kh P (kz "total"), key := .str (kz "total") 289, val := .ref 87 }, { hash := kh P (kz "of_gates"), key := .str (kz "of_gates") 295, val := .ref 92 }, { hash := kh P (kz "masked"), key := .str (kz "masked") 304, val := .ref 99 }, { hash := kh P (kz "times"), key := .str (kz "times") 313, val := .ref 106 }, { hash := kh P (kz "chosen"), key := .str (kz "chosen") 319, val := .ref 111 }, { hash := kh P (kz "below"), key := .str (kz "below") 328, val := .ref 118 }, { hash := kh P (kz "at_most"), key := .str (kz "at_most") 337, val := .ref 125 }, { hash := kh P (kz "equal"), key := .str (kz "equal") 343, val := .ref 130 }, { hash := kh P (kz "__static_attributes__"), key := .str (kz "__static_attributes__") 345, val := .ref 131 }, { hash := kh P (kz "__dict__"), key := .str (kz "__dict__") 347, val := .ref 134 }, { hash := kh P (kz "__weakref__"), key := .str (kz "__weakref__") 349, val := .ref 135 }, { hash := kh P (kz "__doc__"), key := .str (kz "__doc__") 350, val := .none }] 4 }), (nat_lit 133, { cls := .type "type", data := Data.cls { name := kz "Binary", bases := [.type "object"], mro := [.ref 133, .type "object"], ns := 132, qualname := kz "Binary" }, slots := #[none, none, some (.str (kz "Binary") 217), some (.str (kz "Binary") 225), some (.builtin "object.__new__"), some (.bool true)] }), (nat_lit 134, { cls := .type "getset_descriptor", data := Data.fields #[.str (kz "__dict__") 346, .ref 133, .builtin "function.__dict__", .builtin "function.__dict__#set"] }), (nat_lit 135, { cls := .type "getset_descriptor", data := Data.fields #[.str (kz "__weakref__") 348, .ref 133, .builtin "ExceptionGroup.__weakref__", .none] }), (nat_lit 145, { cls := .type "tuple", data := Data.seq #[] }), (nat_lit 147, { cls := .type "tuple", data := Data.seq #[.str (kz "self") 370] }), (nat_lit 148, { cls := .type "tuple", data := Data.seq #[] }), (nat_lit 150, { cls := .type "code", data := Data.fields #[.str (kz "__init__") 367, .str (kz "Circuit.__init__") 368, .str (kz "/claim/cut.py") 369, .int 76 0, .int 1 0, .int 0 0, .int 0 0, .int 3 0, .ref 145, .bool true, .int 181 0, .ref 146, .none, .ref 147, .ref 148, .ref 149, .int 371 0, .int 76 0, .str (kz "/claim/cut.py") 372] }), (nat_lit 151, { cls := .type "function", data := Data.func { name := kz "__init__", qualname := kz "Circuit.__init__", params := ka17, body := .stmts kb17, scope := kc17, globals := 3, closure := [], defaults := .none, kwdefaults := .none, pyModule := .str (kz "relfinder.circuit") 353, code := .ref 150 } }), (nat_lit 152, { cls := .type "tuple", data := Data.seq #[] }), (nat_lit 154, { cls := .type "tuple", data := Data.seq #[.str (kz "self") 377] }), (nat_lit 155, { cls := .type "tuple", data := Data.seq #[] }), (nat_lit 157, { cls := .type "code", data := Data.fields #[.str (kz "size") 374, .str (kz "Circuit.size") 375, .str (kz "/claim/cut.py") 376, .int 81 0, .int 1 0, .int 0 0, .int 0 0, .int 3 0, .ref 152, .bool true, .int 181 0, .ref 153, .none, .ref 154, .ref 155, .ref 156, .int 378 0, .int 81 0, .str (kz "/claim/cut.py") 379] }), (nat_lit 158, { cls := .type "function", data := Data.func { name := kz "size", qualname := kz "Circuit.size", params := ka18, body := .stmts kb18, scope := kc18, globals := 3, closure := [], defaults := .none, kwdefaults := .none, pyModule := .str (kz "relfinder.circuit") 353, code := .ref 157 } }), (nat_lit 159, { cls := .type "tuple", data := Data.seq #[] }), (nat_lit 161, { cls := .type "tuple", data := Data.seq #[.str (kz "self") 384, .str (kz "g") 385] }), (nat_lit 162, { cls := .type "tuple", data := Data.seq #[] }), (nat_lit 164, { cls := .type "code", data := Data.fields #[.str (kz "kind") 381, .str (kz "Circuit.kind") 382, .str (kz "/claim/cut.py") 383, .int 84 0, .int 2 0, .int 0 0, .int 0 0, .int 3 0, .ref 159, .bool true, .int 181 0, .ref 160, .none, .ref 161, .ref 162, .ref 163, .int 386 0, .int 84 0, .str (kz "/claim/cut.py") 387] }), (nat_lit 165, { cls := .type "function", data := Data.func { name := kz "kind", qualname := kz "Circuit.kind", params := ka19, body := .stmts kb19, scope := kc19, globals := 3, closure := [], defaults := .none, kwdefaults := .none, pyModule := .str (kz "relfinder.circuit") 353, code := .ref 164 } }), (nat_lit 166, { cls := .type "tuple", data := Data.seq #[] }), (nat_lit 168, { cls := .type "tuple", data := Data.seq #[.str (kz "self") 392, .str (kz "g") 393] }), (nat_lit 169, { cls := .type "tuple", data := Data.seq #[] }), (nat_lit 171, { cls := .type "code", data := Data.fields #[.str (kz "parts") 389, .str (kz "Circuit.parts") 390, .str (kz "/claim/cut.py") 391, .int 87 0, .int 2 0, .int 0 0, .int 0 0, .int 3 0, .ref 166, .bool true, .int 181 0, .ref 167, .none, .ref 168, .ref 169, .ref 170, .int 394 0, .int 87 0, .str (kz "/claim/cut.py") 395] }), (nat_lit 172, { cls := .type "function", data := Data.func { name := kz "parts", qualname := kz "Circuit.parts", params := ka20, body := .stmts kb20, scope := kc20, globals := 3, closure := [], defaults := .none, kwdefaults := .none, pyModule := .str (kz "relfinder.circuit") 353, code := .ref 171 } }), (nat_lit 173, { cls := .type "tuple", data := Data.seq #[] }), (nat_lit 175, { cls := .type "tuple", data := Data.seq #[.str (kz "self") 400, .str (kz "kind") 401, .str (kz "parts") 402] }), (nat_lit 176, { cls := .type "tuple", data := Data.seq #[] }), (nat_lit 178, { cls := .type "code", data := Data.fields #[.str (kz "new_gate") 397, .str (kz "Circuit.new_gate") 398, .str (kz "/claim/cut.py") 399, .int 90 0, .int 3 0, .int 0 0, .int 0 0, .int 3 0, .ref 173, .bool true, .int 181 0, .ref 174, .none, .ref 175, .ref 176, .ref 177, .int 403 0, .int 90 0, .str (kz "/claim/cut.py") 404] }), (nat_lit 179, { cls := .type "function", data := Data.func { name := kz "new_gate", qualname := kz "Circuit.new_gate", params := ka21, body := .stmts kb21, scope := kc21, globals := 3, closure := [], defaults := .none, kwdefaults := .none, pyModule := .str (kz "relfinder.circuit") 353, code := .ref 178 } }), (nat_lit 180, { cls := .type "tuple", data := Data.seq #[] }), (nat_lit 182, { cls := .type "tuple", data := Data.seq #[.str (kz "self") 409] }), (nat_lit 183, { cls := .type "tuple", data := Data.seq #[] }), (nat_lit 185, { cls := .type "code", data := Data.fields #[.str (kz "new_input") 406, .str (kz "Circuit.new_input") 407, .str (kz "/claim/cut.py") 408, .int 95 0, .int 1 0, .int 0 0, .int 0 0, .int 3 0, .ref 180, .bool true, .int 181 0, .ref 181, .none, .ref 182, .ref 183, .ref 184, .int 410 0, .int 95 0, .str (kz "/claim/cut.py") 411] }), (nat_lit 186, { cls := .type "function", data := Data.func { name := kz "new_input", qualname := kz "Circuit.new_input", params := ka22, body := .stmts kb22, scope := kc22, globals := 3, closure := [], defaults := .none, kwdefaults := .none, pyModule := .str (kz "relfinder.circuit") 353, code := .ref 185 } }), (nat_lit 187, { cls := .type "tuple", data := Data.seq #[] }), (nat_lit 189, { cls := .type "tuple", data := Data.seq #[.str (kz "self") 416, .str (kz "gates") 417, .str (kz "found") 418, .str (kz "g") 419, .str (kz "parts") 420] }), (nat_lit 190, { cls := .type "tuple", data := Data.seq #[] }), (nat_lit 192, { cls := .type "code", data := Data.fields #[.str (kz "all_of") 413, .str (kz "Circuit.all_of") 414, .str (kz "/claim/cut.py") 415, .int 98 0, .int 2 0, .int 0 0, .int 0 0, .int 3 0, .ref 187, .bool true, .int 181 0, .ref 188, .none, .ref 189, .ref 190, .ref 191, .int 421 0, .int 98 0, .str (kz "/claim/cut.py") 422] }), (nat_lit 193, { cls := .type "function", data := Data.func { name := kz "all_of", qualname := kz "Circuit.all_of", params := ka23, body := .stmts kb23, scope := kc23, globals := 3, closure := [], defaults := .none, kwdefaults := .none, pyModule := .str (kz "relfinder.circuit") 353, code := .ref 192 } }), (nat_lit 194, { cls := .type "tuple", data := Data.seq #[] }), (nat_lit 196, { cls := .type "tuple", data := Data.seq #[.str (kz "self") 427, .str (kz "gates") 428] }), (nat_lit 197, { cls := .type "tuple", data := Data.seq #[] }), (nat_lit 199, { cls := .type "code", data := Data.fields #[.str (kz "any_of") 424, .str (kz "Circuit.any_of") 425, .str (kz "/claim/cut.py") 426, .int 112 0, .int 2 0, .int 0 0, .int 0 0, .int 3 0, .ref 194, .bool true, .int 181 0, .ref 195, .none, .ref 196, .ref 197, .ref 198, .int 429 0, .int 112 0, .str (kz "/claim/cut.py") 430] }), (nat_lit 200, { cls := .type "function", data := Data.func { name := kz "any_of", qualname := kz "Circuit.any_of", params := ka24, body := .stmts kb24, scope := kc24, globals := 3, closure := [], defaults := .none, kwdefaults := .none, pyModule := .str (kz "relfinder.circuit") 353, code := .ref 199 } }), (nat_lit 201, { cls := .type "tuple", data := Data.seq #[] }), (nat_lit 203, { cls := .type "tuple", data := Data.seq #[.str (kz "self") 435, .str (kz "a") 436, .str (kz "b") 437] }), (nat_lit 204, { cls := .type "tuple", data := Data.seq #[] }), (nat_lit 206, { cls := .type "code", data := Data.fields #[.str (kz "both") 432, .str (kz "Circuit.both") 433, .str (kz "/claim/cut.py") 434, .int 115 0, .int 3 0, .int 0 0, .int 0 0, .int 3 0, .ref 201, .bool true, .int 181 0, .ref 202, .none, .ref 203, .ref 204, .ref 205, .int 438 0, .int 115 0, .str (kz "/claim/cut.py") 439] }), (nat_lit 207, { cls := .type "function", data := Data.func { name := kz "both", qualname := kz "Circuit.both", params := ka25, body := .stmts kb25, scope := kc25, globals := 3, closure := [], defaults := .none, kwdefaults := .none, pyModule := .str (kz "relfinder.circuit") 353, code := .ref 206 } }), (nat_lit 208, { cls := .type "tuple", data := Data.seq #[] }), (nat_lit 210, { cls := .type "tuple", data := Data.seq #[.str (kz "self") 444, .str (kz "a") 445, .str (kz "b") 446] }), (nat_lit 211, { cls := .type "tuple", data := Data.seq #[] }), (nat_lit 213, { cls := .type "code", data := Data.fields #[.str (kz "either") 441, .str (kz "Circuit.either") 442, .str (kz "/claim/cut.py") 443, .int 118 0, .int 3 0, .int 0 0, .int 0 0, .int 3 0, .ref 208, .bool true, .int 181 0, .ref 209, .none, .ref 210, .ref 211, .ref 212, .int 447 0, .int 118 0, .str (kz "/claim/cut.py") 448] }), (nat_lit 214, { cls := .type "function", data := Data.func { name := kz "either", qualname := kz "Circuit.either", params := ka26, body := .stmts kb26, scope := kc26, globals := 3, closure := [], defaults := .none, kwdefaults := .none, pyModule := .str (kz "relfinder.circuit") 353, code := .ref 213 } }), (nat_lit 215, { cls := .type "tuple", data := Data.seq #[] }), (nat_lit 217, { cls := .type "tuple", data := Data.seq #[.str (kz "self") 453, .str (kz "a") 454, .str (kz "b") 455] }), (nat_lit 218, { cls := .type "tuple", data := Data.seq #[] }), (nat_lit 220, { cls := .type "code", data := Data.fields #[.str (kz "implies") 450, .str (kz "Circuit.implies") 451, .str (kz "/claim/cut.py") 452, .int 121 0, .int 3 0, .int 0 0, .int 0 0, .int 3 0, .ref 215, .bool true, .int 181 0, .ref 216, .none, .ref 217, .ref 218, .ref 219, .int 456 0, .int 121 0, .str (kz "/claim/cut.py") 457] }), (nat_lit 221, { cls := .type "function", data := Data.func { name := kz "implies", qualname := kz "Circuit.implies", params := ka27, body := .stmts kb27, scope := kc27, globals := 3, closure := [], defaults := .none, kwdefaults := .none, pyModule := .str (kz "relfinder.circuit") 353, code := .ref 220 } }), (nat_lit 222, { cls := .type "tuple", data := Data.seq #[] }), (nat_lit 224, { cls := .type "tuple", data := Data.seq #[.str (kz "self") 462, .str (kz "a") 463, .str (kz "b") 464] }), (nat_lit 225, { cls := .type "tuple", data := Data.seq #[] }), (nat_lit 227, { cls := .type "code", data := Data.fields #[.str (kz "iff") 459, .str (kz "Circuit.iff") 460, .str (kz "/claim/cut.py") 461, .int 124 0, .int 3 0, .int 0 0, .int 0 0, .int 3 0, .ref 222, .bool true, .int 181 0, .ref 223, .none, .ref 224, .ref 225, .ref 226, .int 465 0, .int 124 0, .str (kz "/claim/cut.py") 466] }), (nat_lit 228, { cls := .type "function", data := Data.func { name := kz "iff", qualname := kz "Circuit.iff", params := ka28, body := .stmts kb28, scope := kc28, globals := 3, closure := [], defaults := .none, kwdefaults := .none, pyModule := .str (kz "relfinder.circuit") 353, code := .ref 227 } }), (nat_lit 229, { cls := .type "tuple", data := Data.seq #[] }), (nat_lit 231, { cls := .type "tuple", data := Data.seq #[.str (kz "self") 471, .str (kz "a") 472, .str (kz "b") 473] }), (nat_lit 232, { cls := .type "tuple", data := Data.seq #[] }), (nat_lit 234, { cls := .type "code", data := Data.fields #[.str (kz "unlike") 468, .str (kz "Circuit.unlike") 469, .str (kz "/claim/cut.py") 470, .int 127 0, .int 3 0, .int 0 0, .int 0 0, .int 3 0, .ref 229, .bool true, .int 181 0, .ref 230, .none, .ref 231, .ref 232, .ref 233, .int 474 0, .int 127 0, .str (kz "/claim/cut.py") 475] }), (nat_lit 235, { cls := .type "function", data := Data.func { name := kz "unlike", qualname := kz "Circuit.unlike", params := ka29, body := .stmts kb29, scope := kc29, globals := 3, closure := [], defaults := .none, kwdefaults := .none, pyModule := .str (kz "relfinder.circuit") 353, code := .ref 234 } }), (nat_lit 236, { cls := .type "tuple", data := Data.seq #[] }), (nat_lit 238, { cls := .type "tuple", data := Data.seq #[.str (kz "self") 480, .str (kz "c") 481, .str (kz "a") 482, .str (kz "b") 483] }), (nat_lit 239, { cls := .type "tuple", data := Data.seq #[] }), (nat_lit 241, { cls := .type "code", data := Data.fields #[.str (kz "choose") 477, .str (kz "Circuit.choose") 478, .str (kz "/claim/cut.py") 479, .int 130 0, .int 4 0, .int 0 0, .int 0 0, .int 3 0, .ref 236, .bool true, .int 181 0, .ref 237, .none, .ref 238, .ref 239, .ref 240, .int 484 0, .int 130 0, .str (kz "/claim/cut.py") 485] }), (nat_lit 242, { cls := .type "function", data := Data.func { name := kz "choose", qualname := kz "Circuit.choose", params := ka30, body := .stmts kb30, scope := kc30, globals := 3, closure := [], defaults := .none, kwdefaults := .none, pyModule := .str (kz "relfinder.circuit") 353, code := .ref 241 } }), (nat_lit 243, { cls := .type "tuple", data := Data.seq #[.str (kz "kinds") 487, .str (kz "known") 488, .str (kz "parts_now") 489] }), (nat_lit 244, { cls := .type "dict", data := Data.dict #[{ hash := kh P (kz "__module__"), key := .str (kz "__module__") 362, val := .str (kz "relfinder.circuit") 353 }, { hash := kh P (kz "__firstlineno__"), key := .str (kz "__firstlineno__") 366, val := .int 74 365 }, { hash := kh P (kz "__init__"), key := .str (kz "__init__") 373, val := .ref 151 }, { hash := kh P (kz "size"), key := .str (kz "size") 380, val := .ref 158 }, { hash := kh P (kz "kind"), key := .str (kz "kind") 388, val := .ref 165 }, { hash := kh P (kz "parts"), key := .str (kz "parts") 396, val := .ref 172 }, { hash := kh P (kz "new_gate"), key := .str (kz "new_gate") 405, val := .ref 179 }, { hash := kh P (kz "new_input"), key := .str (kz "new_input") 412, val := .ref 186 }, { hash := kh P (kz "all_of"), key := .str (kz "all_of") 423, val := .ref 193 }, { hash := kh P (kz "any_of"), key := .str (kz "any_of") 431, val := .ref 200 }, { hash := kh P (kz "both"), key := .str (kz "both") 440, val := .ref 207 }, { hash := kh P (kz "either"), key := .str (kz "either") 449, val := .ref 214 }, { hash := kh P (kz "implies"), key := .str (kz "implies") 458, val := .ref 221 }, { hash := kh P (kz "iff"), key := .str (kz "iff") 467, val := .ref 228 }, { hash := kh P (kz "unlike"), key := .str (kz "unlike") 476, val := .ref 235 }, { hash := kh P (kz "choose"), key := .str (kz "choose") 486, val := .ref 242 }, { hash := kh P (kz "__static_attributes__"), key := .str (kz "__static_attributes__") 490, val := .ref 243 }, { hash := kh P (kz "__dict__"), key := .str (kz "__dict__") 492, val := .ref 246 }, { hash := kh P (kz "__weakref__"), key := .str (kz "__weakref__") 494, val := .ref 247 }, { hash := kh P (kz "__doc__"), key := .str (kz "__doc__") 495, val := .none }] 4 }), (nat_lit 245, { cls := .type "type", data := Data.cls { name := kz "Circuit", bases := [.type "object"], mro := [.ref 245, .type "object"], ns := 244, qualname := kz "Circuit" }, slots := #[none, none, some (.str (kz "Circuit") 355), some (.str (kz "Circuit") 363), some (.builtin "object.__new__"), some (.bool true)] }), (nat_lit 246, { cls := .type "getset_descriptor", data := Data.fields #[.str (kz "__dict__") 491, .ref 245, .builtin "function.__dict__", .builtin "function.__dict__#set"] }), (nat_lit 247, { cls := .type "getset_descriptor", data := Data.fields #[.str (kz "__weakref__") 493, .ref 245, .builtin "ExceptionGroup.__weakref__", .none] }), (nat_lit 250, { cls := .type "tuple", data := Data.seq #[] }), (nat_lit 252, { cls := .type "tuple", data := Data.seq #[.str (kz "feed") 503, .str (kz "wide") 504, .str (kz "here") 505] }), (nat_lit 253, { cls := .type "tuple", data := Data.seq #[] }), (nat_lit 255, { cls := .type "code", data := Data.fields #[.str (kz "_law_draw") 500, .str (kz "_law_draw") 501, .str (kz "/claim/cut.py") 502, .int 133 0, .int 2 0, .int 0 0, .int 0 0, .int 3 0, .ref 250, .bool true, .int 181 0, .ref 251, .none, .ref 252, .ref 253, .ref 254, .int 506 0, .int 133 0, .str (kz "/claim/cut.py") 507] }), (nat_lit 256, { cls := .type "function", data := Data.func { name := kz "_law_draw", qualname := kz "_law_draw", params := ka31, body := .stmts kb31, scope := kc31, globals := 3, closure := [], defaults := .none, kwdefaults := .none, pyModule := .str (kz "law_nu0269_01") 498, code := .ref 255 } }), (nat_lit 257, { cls := .type "tuple", data := Data.seq #[] }), (nat_lit 259, { cls := .type "tuple", data := Data.seq #[.str (kz "feed") 512, .str (kz "world") 513, .str (kz "many") 514, .str (kz "way") 515] }), (nat_lit 260, { cls := .type "tuple", data := Data.seq #[] }), (nat_lit 262, { cls := .type "code", data := Data.fields #[.str (kz "_law_gate") 509, .str (kz "_law_gate") 510, .str (kz "/claim/cut.py") 511, .int 139 0, .int 2 0, .int 0 0, .int 0 0, .int 3 0, .ref 257, .bool true, .int 181 0, .ref 258, .none, .ref 259, .ref 260, .ref 261, .int 516 0, .int 139 0, .str (kz "/claim/cut.py") 517] }), (nat_lit 263, { cls := .type "function", data := Data.func { name := kz "_law_gate", qualname := kz "_law_gate", params := ka32, body := .stmts kb32, scope := kc32, globals := 3, closure := [], defaults := .none, kwdefaults := .none, pyModule := .str (kz "law_nu0269_01") 498, code := .ref 262 } }), (nat_lit 264, { cls := .type "tuple", data := Data.seq #[] }), (nat_lit 266, { cls := .type "tuple", data := Data.seq #[.str (kz "world") 522, .str (kz "g") 523, .str (kz "found") 524, .str (kz "row") 525, .str (kz "holds") 526] }), (nat_lit 267, { cls := .type "tuple", data := Data.seq #[] }), (nat_lit 269, { cls := .type "code", data := Data.fields #[.str (kz "_law_truths") 519, .str (kz "_law_truths") 520, .str (kz "/claim/cut.py") 521, .int 145 0, .int 2 0, .int 0 0, .int 0 0, .int 3 0, .ref 264, .bool true, .int 181 0, .ref 265, .none, .ref 266, .ref 267, .ref 268, .int 527 0, .int 145 0, .str (kz "/claim/cut.py") 528] }), (nat_lit 270, { cls := .type "function", data := Data.func { name := kz "_law_truths", qualname := kz "_law_truths", params := ka33, body := .stmts kb33, scope := kc33, globals := 3, closure := [], defaults := .none, kwdefaults := .none, pyModule := .str (kz "law_nu0269_01") 498, code := .ref 269 } }), (nat_lit 271, { cls := .type "tuple", data := Data.seq #[] }), (nat_lit 274, { cls := .type "code", data := Data.fields #[.str (kz "_law_counted") 530, .str (kz "_law_counted") 531, .str (kz "/claim/cut.py") 532, .int 151 0, .int 2 0, .int 0 0, .int 0 0, .int 3 0, .ref 271, .bool true, .int 181 0, .ref 272, .none, .none, .none, .ref 273, .int 533 0, .int 151 0, .str (kz "/claim/cut.py") 534] }), (nat_lit 275, { cls := .type "function", data := Data.func { name := kz "_law_counted", qualname := kz "_law_counted", params := ka34, body := .stmts kb34, scope := kc34, globals := 3, closure := [], defaults := .none, kwdefaults := .none, pyModule := .str (kz "law_nu0269_01") 498, code := .ref 274 } }), (nat_lit 276, { cls := .type "tuple", data := Data.seq #[] }), (nat_lit 279, { cls := .type "code", data := Data.fields #[.str (kz "_law_number") 536, .str (kz "_law_number") 537, .str (kz "/claim/cut.py") 538, .int 156 0, .int 2 0, .int 0 0, .int 0 0, .int 3 0, .ref 276, .bool true, .int 181 0, .ref 277, .none, .none, .none, .ref 278, .int 539 0, .int 156 0, .str (kz "/claim/cut.py") 540] }), (nat_lit 280, { cls := .type "function", data := Data.func { name := kz "_law_number", qualname := kz "_law_number", params := ka35, body := .stmts kb35, scope := kc35, globals := 3, closure := [], defaults := .none, kwdefaults := .none, pyModule := .str (kz "law_nu0269_01") 498, code := .ref 279 } }), (nat_lit 281, { cls := .type "tuple", data := Data.seq #[] }), (nat_lit 284, { cls := .type "code", data := Data.fields #[.str (kz "_law_reckoned") 542, .str (kz "_law_reckoned") 543, .str (kz "/claim/cut.py") 544, .int 169 0, .int 2 0, .int 0 0, .int 0 0, .int 3 0, .ref 281, .bool true, .int 181 0, .ref 282, .none, .none, .none, .ref 283, .int 545 0, .int 169 0, .str (kz "/claim/cut.py") 546] }), (nat_lit 285, { cls := .type "function", data := Data.func { name := kz "_law_reckoned", qualname := kz "_law_reckoned", params := ka36, body := .stmts kb36, scope := kc36, globals := 3, closure := [], defaults := .none, kwdefaults := .none, pyModule := .str (kz "law_nu0269_01") 498, code := .ref 284 } }), (nat_lit 286, { cls := .type "tuple", data := Data.seq #[] }), (nat_lit 289, { cls := .type "code", data := Data.fields #[.str (kz "_law_known") 548, .str (kz "_law_known") 549, .str (kz "/claim/cut.py") 550, .int 186 0, .int 1 0, .int 0 0, .int 0 0, .int 3 0, .ref 286, .bool true, .int 181 0, .ref 287, .none, .none, .none, .ref 288, .int 551 0, .int 186 0, .str (kz "/claim/cut.py") 552] }), (nat_lit 290, { cls := .type "function", data := Data.func { name := kz "_law_known", qualname := kz "_law_known", params := ka37, body := .stmts kb37, scope := kc37, globals := 3, closure := [], defaults := .none, kwdefaults := .none, pyModule := .str (kz "law_nu0269_01") 498, code := .ref 289 } }), (nat_lit 291, { cls := .type "tuple", data := Data.seq #[] }), (nat_lit 294, { cls := .type "code", data := Data.fields #[.str (kz "_law_is_number") 554, .str (kz "_law_is_number") 555, .str (kz "/claim/cut.py") 556, .int 196 0, .int 3 0, .int 0 0, .int 0 0, .int 3 0, .ref 291, .bool true, .int 181 0, .ref 292, .none, .none, .none, .ref 293, .int 557 0, .int 196 0, .str (kz "/claim/cut.py") 558] }), (nat_lit 295, { cls := .type "function", data := Data.func { name := kz "_law_is_number", qualname := kz "_law_is_number", params := ka38, body := .stmts kb38, scope := kc38, globals := 3, closure := [], defaults := .none, kwdefaults := .none, pyModule := .str (kz "law_nu0269_01") 498, code := .ref 294 } }), (nat_lit 296, { cls := .type "tuple", data := Data.seq #[] }), (nat_lit 299, { cls := .type "code", data := Data.fields #[.str (kz "_law_is_gate") 560, .str (kz "_law_is_gate") 561, .str (kz "/claim/cut.py") 562, .int 203 0, .int 3 0, .int 0 0, .int 0 0, .int 3 0, .ref 296, .bool true, .int 181 0, .ref 297, .none, .none, .none, .ref 298, .int 563 0, .int 203 0, .str (kz "/claim/cut.py") 564] }), (nat_lit 300, { cls := .type "function", data := Data.func { name := kz "_law_is_gate", qualname := kz "_law_is_gate", params := ka39, body := .stmts kb39, scope := kc39, globals := 3, closure := [], defaults := .none, kwdefaults := .none, pyModule := .str (kz "law_nu0269_01") 498, code := .ref 299 } }), (nat_lit 301, { cls := .type "tuple", data := Data.seq #[] }), (nat_lit 304, { cls := .type "code", data := Data.fields #[.str (kz "law") 566, .str (kz "law") 567, .str (kz "/claim/cut.py") 568, .int 205 0, .int 1 0, .int 0 0, .int 0 0, .int 3 0, .ref 301, .bool true, .int 181 0, .ref 302, .none, .none, .none, .ref 303, .int 569 0, .int 205 0, .str (kz "/claim/cut.py") 570] }), (nat_lit 305, { cls := .type "function", data := Data.func { name := kz "law", qualname := kz "law", params := ka40, body := .stmts kb40, scope := kc40, globals := 3, closure := [], defaults := .none, kwdefaults := .none, pyModule := .str (kz "law_nu0269_01") 498, code := .ref 304 } })]
noncomputable def hd.heap_39 : Params → Frag := by refine' klit (a := hd.kraw) _ ?h; case h => (delta hd.kraw kz kh ka0 kb0 kc0 ka1 kb1 kc1 ka2 kb2 kc2 ka3 kb3 kc3 ka4 kb4 kc4 ka5 kb5 kc5 ka6 kb6 kc6 ka7 kb7 kc7 ka8 kb8 kc8 ka9 kb9 kc9 ka10 kb10 kc10 ka11 kb11 kc11 ka12 kb12 kc12 ka13 kb13 kc13 ka14 kb14 kc14 ka15 kb15 kc15 ka16 kb16 kc16 ka17 kb17 kc17 ka18 kb18 kc18 ka19 kb19 kc19 ka20 kb20 kc20 ka21 kb21 kc21 ka22 kb22 kc22 ka23 kb23 kc23 ka24 kb24 kc24 ka25 kb25 kc25 ka26 kb26 kc26 ka27 kb27 kc27 ka28 kb28 kc28 ka29 kb29 kc29 ka30 kb30 kc30 ka31 kb31 kc31 ka32 kb32 kc32 ka33 kb33 kc33 ka34 kb34 kc34 ka35 kb35 kc35 ka36 kb36 kc36 ka37 kb37 kc37 ka38 kb38 kc38 ka39 kb39 kc39 ka40 kb40 kc40; delta klit; rfl)
noncomputable def hd.view_39 : Program := view PySem.Challenge.pw_nu0269_01 [0, 2, 3, 4, 5, 6, 8, 10, 11, 12, 13, 14, 15, 16, 17, 18, 19]
theorem head_opening : opening PySem.Challenge.pw_nu0269_01 = plainProg PySem.Challenge.pw_nu0269_01.main.scope.names := rfl
theorem head_fence (s : Shared) : fenceModules? PySem.Challenge.pw_nu0269_01 s = some s := rfl
theorem hl_res : namesResolve PySem.Challenge.rw_nu0269_01.row.toRowW.prog = true := by
  rw [Fast.te8377067652309620493]
  kernel_rfl
theorem hl_world : PySem.Challenge.rw_nu0269_01.row.toRowW.prog.boundNames.all (fun n => !worldNames.contains n) = true := by kernel_rfl
theorem hl_bare0 : readsOut PySem.Challenge.rw_nu0269_01.row.toRowW.prog PySem.Challenge.rw_nu0269_01.row.toRowW.prog.main.body "vars" = false := by
  rw [Fast.te13343964577679436407]
  kernel_rfl
theorem hl_bare1 : readsOut PySem.Challenge.rw_nu0269_01.row.toRowW.prog PySem.Challenge.rw_nu0269_01.row.toRowW.prog.main.body "dir" = false := by
  rw [Fast.te13343964577679436407]
  kernel_rfl
theorem hl_bare2 : readsOut PySem.Challenge.rw_nu0269_01.row.toRowW.prog PySem.Challenge.rw_nu0269_01.row.toRowW.prog.main.body "locals" = false := by
  rw [Fast.te13343964577679436407]
  kernel_rfl
theorem filter3 {α : Type} {f : α → Bool} {a b c : α} (x : f a = false) (y : f b = false) (z : f c = false) : [a, b, c].filter f = [] := by simp only [List.filter, x, y, z]
theorem hl_road0 : noRoadLSs { strict := !(importedModules PySem.Challenge.rw_nu0269_01.row.toRowW.prog.main.body).all cThrough.contains, foot := none, bare := [] } PySem.Challenge.rw_nu0269_01.row.toRowW.prog.main.body = true := by
  rw [Fast.te8326940854005059898]
  kernel_rfl
theorem hl_road : noRoadLSs { strict := !(importedModules PySem.Challenge.rw_nu0269_01.row.toRowW.prog.main.body).all cThrough.contains, foot := none, bare := (["vars", "dir", "locals"] : List Str).filter (readsOut PySem.Challenge.rw_nu0269_01.row.toRowW.prog PySem.Challenge.rw_nu0269_01.row.toRowW.prog.main.body) } PySem.Challenge.rw_nu0269_01.row.toRowW.prog.main.body = true := by
  rw [filter3 hl_bare0 hl_bare1 hl_bare2]
  exact hl_road0
theorem hl_meet : namesMeet PySem.Challenge.rw_nu0269_01.row.toRowW.prog PySem.Challenge.rw_nu0269_01.row.toRowW.prog.main.body (fun _ n => attrL n) = true := by
  rw [Fast.te17119622794617984870, Fast.te17868728402115742887]
  kernel_rfl
theorem hl_open : looksOpen PySem.Challenge.rw_nu0269_01.row.toRowW.prog = true := by
  delta looksOpen
  refine look_both (look_both (look_both (look_both (look_both ?_ ?_) hl_res) hl_world) hl_road) hl_meet
  · kernel_rfl
  · kernel_rfl
theorem hl_part : OpenRow.partSaid PySem.Challenge.rw_nu0269_01.row = true := by
  delta OpenRow.partSaid
  repeat' with_reducible refine look_both ?_ ?_
  · exact hl_open
  all_goals kernel_rfl
theorem hl_row : OpenRow.wellSaid PySem.Challenge.rw_nu0269_01.row = true := by
  delta OpenRow.wellSaid
  refine look_both (look_both hl_part ?_) ?_
  · kernel_rfl
  · kernel_rfl
theorem hl_lines : PySem.Challenge.rw_nu0269_01.footing.all footLine = true := by kernel_rfl
theorem hl_block : noClassBlock PySem.Challenge.rw_nu0269_01.prog PySem.Challenge.rw_nu0269_01.footing = true := by
  rw [Fast.te8179353310426384613]
  kernel_rfl
theorem hl_foot : noRoadLSs { strict := true, foot := some PySem.Challenge.rw_nu0269_01.bound', writes := PySem.Challenge.rw_nu0269_01.writes, may := PySem.Challenge.rw_nu0269_01.may } PySem.Challenge.rw_nu0269_01.footing = true := by
  rw [Fast.te8326940854005059898, Fast.te797321630700447069]
  kernel_rfl
theorem hl_names : PySem.Challenge.rw_nu0269_01.namesIt = true := by
  rw [Fast.te16286561074155671207]
  kernel_rfl
theorem hl_bound : PySem.Challenge.rw_nu0269_01.bound'.all (fun n => !builtinNamed n || PySem.Challenge.rw_nu0269_01.about == [n] || !PySem.Challenge.rw_nu0269_01.reads n) = true := by
  rw [Fast.te797321630700447069, Fast.named_eq, Fast.te6984425678791042302]
  kernel_rfl
theorem hl_may : namesMeet PySem.Challenge.rw_nu0269_01.prog PySem.Challenge.rw_nu0269_01.footing (fun sc n => (!(["type", "isinstance", "issubclass", "getattr", "hasattr"] : List Str).contains n || sc.names.lookup n == some .globalImplicit) && (PySem.Challenge.rw_nu0269_01.may != some n || sc.kind == .module || sc.names.lookup n == some .globalImplicit)) = true := by
  rw [Fast.te17119622794617984870]
  kernel_rfl
theorem hl_built : PySem.Challenge.rw_nu0269_01.own.all (fun n => !builtinNamed n) = true := by
  rw [Fast.named_eq, Fast.te10792542408131684335]
  kernel_rfl
theorem hl_above : namesMeet PySem.Challenge.rw_nu0269_01.prog PySem.Challenge.rw_nu0269_01.above (fun _ n => !PySem.Challenge.rw_nu0269_01.own.contains n) = true := by
  rw [Fast.te17119622794617984870, Fast.te10792542408131684335]
  kernel_rfl
theorem hl_glob : namesMeet PySem.Challenge.rw_nu0269_01.prog PySem.Challenge.rw_nu0269_01.footing (fun sc n => sc.kind == .module || sc.names.lookup n != some .globalExplicit) = true := by
  rw [Fast.te17119622794617984870]
  kernel_rfl
theorem head_law : OpenLaw.wellSaid PySem.Challenge.rw_nu0269_01 = true := by
  delta OpenLaw.wellSaid
  repeat' with_reducible refine look_both ?_ ?_
  · exact hl_row
  · kernel_rfl
  · exact hl_lines
  · exact hl_block
  · kernel_rfl
  · kernel_rfl
  · exact hl_foot
  · kernel_rfl
  · exact hl_names
  · kernel_rfl
  · exact hl_bound
  · kernel_rfl
  · kernel_rfl
  · exact hl_may
  · kernel_rfl
  · kernel_rfl
  · exact hl_built
  · exact hl_above
  · exact hl_glob
noncomputable def head_Xt : Shared → Bool := fun s => xlAt hd.view_39 [] s && recOk (RowW.records PySem.Challenge.rw_nu0269_01.row.toRowW) s
noncomputable def head_ads : List Addr := [nat_lit 2, nat_lit 3, nat_lit 15, nat_lit 17, nat_lit 18, nat_lit 20, nat_lit 21, nat_lit 22, nat_lit 24, nat_lit 25, nat_lit 27, nat_lit 28, nat_lit 29, nat_lit 31, nat_lit 32, nat_lit 34, nat_lit 35, nat_lit 43, nat_lit 45, nat_lit 46, nat_lit 48, nat_lit 49, nat_lit 50, nat_lit 52, nat_lit 53, nat_lit 55, nat_lit 56, nat_lit 57, nat_lit 59, nat_lit 60, nat_lit 62, nat_lit 63, nat_lit 64, nat_lit 66, nat_lit 67, nat_lit 69, nat_lit 70, nat_lit 71, nat_lit 74, nat_lit 75, nat_lit 76, nat_lit 78, nat_lit 79, nat_lit 81, nat_lit 82, nat_lit 83, nat_lit 86, nat_lit 87, nat_lit 88, nat_lit 91, nat_lit 92, nat_lit 93, nat_lit 95, nat_lit 96, nat_lit 98, nat_lit 99, nat_lit 100, nat_lit 102, nat_lit 103, nat_lit 105, nat_lit 106, nat_lit 107, nat_lit 110, nat_lit 111, nat_lit 112, nat_lit 114, nat_lit 115, nat_lit 117, nat_lit 118, nat_lit 119, nat_lit 121, nat_lit 122, nat_lit 124, nat_lit 125, nat_lit 126, nat_lit 129, nat_lit 130, nat_lit 131, nat_lit 132, nat_lit 133, nat_lit 134, nat_lit 135, nat_lit 145, nat_lit 147, nat_lit 148, nat_lit 150, nat_lit 151, nat_lit 152, nat_lit 154, nat_lit 155, nat_lit 157, nat_lit 158, nat_lit 159, nat_lit 161, nat_lit 162, nat_lit 164, nat_lit 165, nat_lit 166, nat_lit 168, nat_lit 169, nat_lit 171, nat_lit 172, nat_lit 173, nat_lit 175, nat_lit 176, nat_lit 178, nat_lit 179, nat_lit 180, nat_lit 182, nat_lit 183, nat_lit 185, nat_lit 186, nat_lit 187, nat_lit 189, nat_lit 190, nat_lit 192, nat_lit 193, nat_lit 194, nat_lit 196, nat_lit 197, nat_lit 199, nat_lit 200, nat_lit 201, nat_lit 203, nat_lit 204, nat_lit 206, nat_lit 207, nat_lit 208, nat_lit 210, nat_lit 211, nat_lit 213, nat_lit 214, nat_lit 215, nat_lit 217, nat_lit 218, nat_lit 220, nat_lit 221, nat_lit 222, nat_lit 224, nat_lit 225, nat_lit 227, nat_lit 228, nat_lit 229, nat_lit 231, nat_lit 232, nat_lit 234, nat_lit 235, nat_lit 236, nat_lit 238, nat_lit 239, nat_lit 241, nat_lit 242, nat_lit 243, nat_lit 244, nat_lit 245, nat_lit 246, nat_lit 247, nat_lit 250, nat_lit 252, nat_lit 253, nat_lit 255, nat_lit 256, nat_lit 257, nat_lit 259, nat_lit 260, nat_lit 262, nat_lit 263, nat_lit 264, nat_lit 266, nat_lit 267, nat_lit 269, nat_lit 270, nat_lit 271, nat_lit 274, nat_lit 275, nat_lit 276, nat_lit 279, nat_lit 280, nat_lit 281, nat_lit 284, nat_lit 285, nat_lit 286, nat_lit 289, nat_lit 290, nat_lit 291, nat_lit 294, nat_lit 295, nat_lit 296, nat_lit 299, nat_lit 300, nat_lit 301, nat_lit 304, nat_lit 305]
theorem head_as (P : Params) : head_ads = (hd.heap_39 P).map (·.1) := by kernel_rfl
noncomputable def hoth (P : Params) : List (Nat × Obj) := [(nat_lit 0, boot_o_0 P), (nat_lit 1, boot_o_1 P), (nat_lit 4, boot_o_4 P), (nat_lit 5, boot_o_5 P), (nat_lit 6, boot_o_6 P), (nat_lit 7, boot_o_7 P), (nat_lit 8, boot_o_8 P), (nat_lit 9, boot_o_9 P), (nat_lit 10, boot_o_10 P), (nat_lit 11, { cls := .type "tuple", data := Data.seq #[] }), (nat_lit 12, { cls := .none, data := Data.fields #[.int 1 0, .int 0 0, .ref 20, .int 7 0, .int 0 0, .ref 27, .int 9 0, .int 0 0, .ref 34, .int 14 0, .int 0 0, .ref 41, .int 74 0, .int 0 0, .ref 143, .int 133 0, .int 0 0, .ref 255, .int 139 0, .int 0 0, .ref 262, .int 145 0, .int 0 0, .ref 269, .int 151 0, .int 0 0, .ref 274, .int 156 0, .int 0 0, .ref 279, .int 169 0, .int 0 0, .ref 284, .int 186 0, .int 0 0, .ref 289, .int 196 0, .int 0 0, .ref 294, .int 203 0, .int 0 0, .ref 299, .int 205 0, .int 0 0, .ref 304] }), (nat_lit 13, { cls := .type "code", data := Data.fields #[.str (kz "<module>") 182, .str (kz "<module>") 183, .str (kz "/claim/cut.py") 184, .int 1 0, .int 0 0, .int 0 0, .int 0 0, .int 0 0, .ref 11, .bool false, .int 181 0, .ref 12, .none, .none, .none, .none, .int 185 0, .int 1 0, .str (kz "/claim/cut.py") 186] }), (nat_lit 14, { cls := .type "frame", slots := #[some (.ref 13), some (.ref 3), some (.ref 3), none, some (.str (kz "__main__") 164), none, some (.ref 0)] }), (nat_lit 16, { cls := .none, data := Data.fields #[] }), (nat_lit 19, { cls := .none, data := Data.func { name := kz "_wall", qualname := kz "_wall", params := ka0, body := .stmts kb0, scope := kc0, globals := 0, closure := [], defaults := .none, kwdefaults := .none } }), (nat_lit 23, { cls := .none, data := Data.fields #[] }), (nat_lit 26, { cls := .none, data := Data.func { name := kz "place_of", qualname := kz "place_of", params := ka1, body := .stmts kb1, scope := kc1, globals := 0, closure := [], defaults := .none, kwdefaults := .none } }), (nat_lit 30, { cls := .none, data := Data.fields #[] }), (nat_lit 33, { cls := .none, data := Data.func { name := kz "trimmed", qualname := kz "trimmed", params := ka2, body := .stmts kb2, scope := kc2, globals := 0, closure := [], defaults := .none, kwdefaults := .none } }), (nat_lit 36, { cls := .type "tuple", data := Data.seq #[] }), (nat_lit 37, { cls := .type "builtin_function_or_method", data := Data.fields #[.builtin "type.__prepare__", .type "type"] }), (nat_lit 38, { cls := .type "dict", data := Data.dict #[{ hash := kh P (kz "__module__"), key := .str (kz "__module__") 224, val := .str (kz "relfinder.binary") 194 }, { hash := kh P (kz "__qualname__"), key := .str (kz "__qualname__") 226, val := .str (kz "Binary") 225 }, { hash := kh P (kz "__firstlineno__"), key := .str (kz "__firstlineno__") 228, val := .int 14 227 }, { hash := kh P (kz "__init__"), key := .str (kz "__init__") 236, val := .ref 49 }, { hash := kh P (kz "constant"), key := .str (kz "constant") 245, val := .ref 56 }, { hash := kh P (kz "added"), key := .str (kz "added") 260, val := .ref 63 }, { hash := kh P (kz "plus"), key := .str (kz "plus") 269, val := .ref 70 }, { hash := kh P (kz "less"), key := .str (kz "less") 275, val := .ref 75 }, { hash := kh P (kz "negated"), key := .str (kz "negated") 283, val := .ref 82 }, { hash := kh P (kz "total"), key := .str (kz "total") 289, val := .ref 87 }, { hash := kh P (kz "of_gates"), key := .str (kz "of_gates") 295, val := .ref 92 }, { hash := kh P (kz "masked"), key := .str (kz "masked") 304, val := .ref 99 }, { hash := kh P (kz "times"), key := .str (kz "times") 313, val := .ref 106 }, { hash := kh P (kz "chosen"), key := .str (kz "chosen") 319, val := .ref 111 }, { hash := kh P (kz "below"), key := .str (kz "below") 328, val := .ref 118 }, { hash := kh P (kz "at_most"), key := .str (kz "at_most") 337, val := .ref 125 }, { hash := kh P (kz "equal"), key := .str (kz "equal") 343, val := .ref 130 }, { hash := kh P (kz "__static_attributes__"), key := .str (kz "__static_attributes__") 345, val := .ref 131 }] 18 }), (nat_lit 39, { cls := .type "tuple", data := Data.seq #[] }), (nat_lit 40, { cls := .none, data := Data.fields #[.int 16 0, .int 4 0, .ref 48, .int 19 0, .int 4 0, .ref 55, .int 26 0, .int 4 0, .ref 62, .int 35 0, .int 4 0, .ref 69, .int 38 0, .int 4 0, .ref 74, .int 41 0, .int 4 0, .ref 81, .int 44 0, .int 4 0, .ref 86, .int 51 0, .int 4 0, .ref 91, .int 54 0, .int 4 0, .ref 98, .int 57 0, .int 4 0, .ref 105, .int 60 0, .int 4 0, .ref 110, .int 64 0, .int 4 0, .ref 117, .int 67 0, .int 4 0, .ref 124, .int 70 0, .int 4 0, .ref 129] }), (nat_lit 41, { cls := .type "code", data := Data.fields #[.str (kz "Binary") 219, .str (kz "Binary") 220, .str (kz "/claim/cut.py") 221, .int 14 0, .int 0 0, .int 0 0, .int 0 0, .int 0 0, .ref 39, .bool false, .int 181 0, .ref 40, .none, .none, .none, .none, .int 222 0, .int 14 0, .str (kz "/claim/cut.py") 223] }), (nat_lit 42, { cls := .type "frame", slots := #[some (.ref 41), some (.ref 3), some (.ref 38), none, some (.str (kz "relfinder.binary") 194), none, some (.ref 0)] }), (nat_lit 44, { cls := .none, data := Data.fields #[] }), (nat_lit 47, { cls := .none, data := Data.func { name := kz "__init__", qualname := kz "Binary.__init__", params := ka3, body := .stmts kb3, scope := kc3, globals := 0, closure := [], defaults := .none, kwdefaults := .none } }), (nat_lit 51, { cls := .none, data := Data.fields #[] }), (nat_lit 54, { cls := .none, data := Data.func { name := kz "constant", qualname := kz "Binary.constant", params := ka4, body := .stmts kb4, scope := kc4, globals := 0, closure := [], defaults := .none, kwdefaults := .none } }), (nat_lit 58, { cls := .none, data := Data.fields #[] }), (nat_lit 61, { cls := .none, data := Data.func { name := kz "added", qualname := kz "Binary.added", params := ka5, body := .stmts kb5, scope := kc5, globals := 0, closure := [], defaults := .none, kwdefaults := .none } }), (nat_lit 65, { cls := .none, data := Data.fields #[] }), (nat_lit 68, { cls := .none, data := Data.func { name := kz "plus", qualname := kz "Binary.plus", params := ka6, body := .stmts kb6, scope := kc6, globals := 0, closure := [], defaults := .none, kwdefaults := .none } }), (nat_lit 72, { cls := .none, data := Data.fields #[] }), (nat_lit 73, { cls := .none, data := Data.func { name := kz "less", qualname := kz "Binary.less", params := ka7, body := .stmts kb7, scope := kc7, globals := 0, closure := [], defaults := .none, kwdefaults := .none } }), (nat_lit 77, { cls := .none, data := Data.fields #[] }), (nat_lit 80, { cls := .none, data := Data.func { name := kz "negated", qualname := kz "Binary.negated", params := ka8, body := .stmts kb8, scope := kc8, globals := 0, closure := [], defaults := .none, kwdefaults := .none } }), (nat_lit 84, { cls := .none, data := Data.fields #[] }), (nat_lit 85, { cls := .none, data := Data.func { name := kz "total", qualname := kz "Binary.total", params := ka9, body := .stmts kb9, scope := kc9, globals := 0, closure := [], defaults := .none, kwdefaults := .none } }), (nat_lit 89, { cls := .none, data := Data.fields #[] }), (nat_lit 90, { cls := .none, data := Data.func { name := kz "of_gates", qualname := kz "Binary.of_gates", params := ka10, body := .stmts kb10, scope := kc10, globals := 0, closure := [], defaults := .none, kwdefaults := .none } }), (nat_lit 94, { cls := .none, data := Data.fields #[] }), (nat_lit 97, { cls := .none, data := Data.func { name := kz "masked", qualname := kz "Binary.masked", params := ka11, body := .stmts kb11, scope := kc11, globals := 0, closure := [], defaults := .none, kwdefaults := .none } }), (nat_lit 101, { cls := .none, data := Data.fields #[] }), (nat_lit 104, { cls := .none, data := Data.func { name := kz "times", qualname := kz "Binary.times", params := ka12, body := .stmts kb12, scope := kc12, globals := 0, closure := [], defaults := .none, kwdefaults := .none } }), (nat_lit 108, { cls := .none, data := Data.fields #[] }), (nat_lit 109, { cls := .none, data := Data.func { name := kz "chosen", qualname := kz "Binary.chosen", params := ka13, body := .stmts kb13, scope := kc13, globals := 0, closure := [], defaults := .none, kwdefaults := .none } }), (nat_lit 113, { cls := .none, data := Data.fields #[] }), (nat_lit 116, { cls := .none, data := Data.func { name := kz "below", qualname := kz "Binary.below", params := ka14, body := .stmts kb14, scope := kc14, globals := 0, closure := [], defaults := .none, kwdefaults := .none } }), (nat_lit 120, { cls := .none, data := Data.fields #[] }), (nat_lit 123, { cls := .none, data := Data.func { name := kz "at_most", qualname := kz "Binary.at_most", params := ka15, body := .stmts kb15, scope := kc15, globals := 0, closure := [], defaults := .none, kwdefaults := .none } }), (nat_lit 127, { cls := .none, data := Data.fields #[] }), (nat_lit 128, { cls := .none, data := Data.func { name := kz "equal", qualname := kz "Binary.equal", params := ka16, body := .stmts kb16, scope := kc16, globals := 0, closure := [], defaults := .none, kwdefaults := .none } }), (nat_lit 136, { cls := .type "super", data := Data.fields #[.ref 133, .ref 133, .ref 133] }), (nat_lit 137, { cls := .type "builtin_function_or_method", data := Data.fields #[.builtin "object.__init_subclass__", .ref 133] }), (nat_lit 138, { cls := .type "tuple", data := Data.seq #[] }), (nat_lit 139, { cls := .type "builtin_function_or_method", data := Data.fields #[.builtin "type.__prepare__", .type "type"] }), (nat_lit 140, { cls := .type "dict", data := Data.dict #[{ hash := kh P (kz "__module__"), key := .str (kz "__module__") 362, val := .str (kz "relfinder.circuit") 353 }, { hash := kh P (kz "__qualname__"), key := .str (kz "__qualname__") 364, val := .str (kz "Circuit") 363 }, { hash := kh P (kz "__firstlineno__"), key := .str (kz "__firstlineno__") 366, val := .int 74 365 }, { hash := kh P (kz "__init__"), key := .str (kz "__init__") 373, val := .ref 151 }, { hash := kh P (kz "size"), key := .str (kz "size") 380, val := .ref 158 }, { hash := kh P (kz "kind"), key := .str (kz "kind") 388, val := .ref 165 }, { hash := kh P (kz "parts"), key := .str (kz "parts") 396, val := .ref 172 }, { hash := kh P (kz "new_gate"), key := .str (kz "new_gate") 405, val := .ref 179 }, { hash := kh P (kz "new_input"), key := .str (kz "new_input") 412, val := .ref 186 }, { hash := kh P (kz "all_of"), key := .str (kz "all_of") 423, val := .ref 193 }, { hash := kh P (kz "any_of"), key := .str (kz "any_of") 431, val := .ref 200 }, { hash := kh P (kz "both"), key := .str (kz "both") 440, val := .ref 207 }, { hash := kh P (kz "either"), key := .str (kz "either") 449, val := .ref 214 }, { hash := kh P (kz "implies"), key := .str (kz "implies") 458, val := .ref 221 }, { hash := kh P (kz "iff"), key := .str (kz "iff") 467, val := .ref 228 }, { hash := kh P (kz "unlike"), key := .str (kz "unlike") 476, val := .ref 235 }, { hash := kh P (kz "choose"), key := .str (kz "choose") 486, val := .ref 242 }, { hash := kh P (kz "__static_attributes__"), key := .str (kz "__static_attributes__") 490, val := .ref 243 }] 18 }), (nat_lit 141, { cls := .type "tuple", data := Data.seq #[] }), (nat_lit 142, { cls := .none, data := Data.fields #[.int 76 0, .int 4 0, .ref 150, .int 81 0, .int 4 0, .ref 157, .int 84 0, .int 4 0, .ref 164, .int 87 0, .int 4 0, .ref 171, .int 90 0, .int 4 0, .ref 178, .int 95 0, .int 4 0, .ref 185, .int 98 0, .int 4 0, .ref 192, .int 112 0, .int 4 0, .ref 199, .int 115 0, .int 4 0, .ref 206, .int 118 0, .int 4 0, .ref 213, .int 121 0, .int 4 0, .ref 220, .int 124 0, .int 4 0, .ref 227, .int 127 0, .int 4 0, .ref 234, .int 130 0, .int 4 0, .ref 241] }), (nat_lit 143, { cls := .type "code", data := Data.fields #[.str (kz "Circuit") 357, .str (kz "Circuit") 358, .str (kz "/claim/cut.py") 359, .int 74 0, .int 0 0, .int 0 0, .int 0 0, .int 0 0, .ref 141, .bool false, .int 181 0, .ref 142, .none, .none, .none, .none, .int 360 0, .int 74 0, .str (kz "/claim/cut.py") 361] }), (nat_lit 144, { cls := .type "frame", slots := #[some (.ref 143), some (.ref 3), some (.ref 140), none, some (.str (kz "relfinder.circuit") 353), none, some (.ref 0)] }), (nat_lit 146, { cls := .none, data := Data.fields #[] }), (nat_lit 149, { cls := .none, data := Data.func { name := kz "__init__", qualname := kz "Circuit.__init__", params := ka17, body := .stmts kb17, scope := kc17, globals := 0, closure := [], defaults := .none, kwdefaults := .none } }), (nat_lit 153, { cls := .none, data := Data.fields #[] }), (nat_lit 156, { cls := .none, data := Data.func { name := kz "size", qualname := kz "Circuit.size", params := ka18, body := .stmts kb18, scope := kc18, globals := 0, closure := [], defaults := .none, kwdefaults := .none } }), (nat_lit 160, { cls := .none, data := Data.fields #[] }), (nat_lit 163, { cls := .none, data := Data.func { name := kz "kind", qualname := kz "Circuit.kind", params := ka19, body := .stmts kb19, scope := kc19, globals := 0, closure := [], defaults := .none, kwdefaults := .none } }), (nat_lit 167, { cls := .none, data := Data.fields #[] }), (nat_lit 170, { cls := .none, data := Data.func { name := kz "parts", qualname := kz "Circuit.parts", params := ka20, body := .stmts kb20, scope := kc20, globals := 0, closure := [], defaults := .none, kwdefaults := .none } }), (nat_lit 174, { cls := .none, data := Data.fields #[] }), (nat_lit 177, { cls := .none, data := Data.func { name := kz "new_gate", qualname := kz "Circuit.new_gate", params := ka21, body := .stmts kb21, scope := kc21, globals := 0, closure := [], defaults := .none, kwdefaults := .none } }), (nat_lit 181, { cls := .none, data := Data.fields #[] }), (nat_lit 184, { cls := .none, data := Data.func { name := kz "new_input", qualname := kz "Circuit.new_input", params := ka22, body := .stmts kb22, scope := kc22, globals := 0, closure := [], defaults := .none, kwdefaults := .none } }), (nat_lit 188, { cls := .none, data := Data.fields #[] }), (nat_lit 191, { cls := .none, data := Data.func { name := kz "all_of", qualname := kz "Circuit.all_of", params := ka23, body := .stmts kb23, scope := kc23, globals := 0, closure := [], defaults := .none, kwdefaults := .none } }), (nat_lit 195, { cls := .none, data := Data.fields #[] }), (nat_lit 198, { cls := .none, data := Data.func { name := kz "any_of", qualname := kz "Circuit.any_of", params := ka24, body := .stmts kb24, scope := kc24, globals := 0, closure := [], defaults := .none, kwdefaults := .none } }), (nat_lit 202, { cls := .none, data := Data.fields #[] }), (nat_lit 205, { cls := .none, data := Data.func { name := kz "both", qualname := kz "Circuit.both", params := ka25, body := .stmts kb25, scope := kc25, globals := 0, closure := [], defaults := .none, kwdefaults := .none } }), (nat_lit 209, { cls := .none, data := Data.fields #[] }), (nat_lit 212, { cls := .none, data := Data.func { name := kz "either", qualname := kz "Circuit.either", params := ka26, body := .stmts kb26, scope := kc26, globals := 0, closure := [], defaults := .none, kwdefaults := .none } }), (nat_lit 216, { cls := .none, data := Data.fields #[] }), (nat_lit 219, { cls := .none, data := Data.func { name := kz "implies", qualname := kz "Circuit.implies", params := ka27, body := .stmts kb27, scope := kc27, globals := 0, closure := [], defaults := .none, kwdefaults := .none } }), (nat_lit 223, { cls := .none, data := Data.fields #[] }), (nat_lit 226, { cls := .none, data := Data.func { name := kz "iff", qualname := kz "Circuit.iff", params := ka28, body := .stmts kb28, scope := kc28, globals := 0, closure := [], defaults := .none, kwdefaults := .none } }), (nat_lit 230, { cls := .none, data := Data.fields #[] }), (nat_lit 233, { cls := .none, data := Data.func { name := kz "unlike", qualname := kz "Circuit.unlike", params := ka29, body := .stmts kb29, scope := kc29, globals := 0, closure := [], defaults := .none, kwdefaults := .none } }), (nat_lit 237, { cls := .none, data := Data.fields #[] }), (nat_lit 240, { cls := .none, data := Data.func { name := kz "choose", qualname := kz "Circuit.choose", params := ka30, body := .stmts kb30, scope := kc30, globals := 0, closure := [], defaults := .none, kwdefaults := .none } }), (nat_lit 248, { cls := .type "super", data := Data.fields #[.ref 245, .ref 245, .ref 245] }), (nat_lit 249, { cls := .type "builtin_function_or_method", data := Data.fields #[.builtin "object.__init_subclass__", .ref 245] }), (nat_lit 251, { cls := .none, data := Data.fields #[] }), (nat_lit 254, { cls := .none, data := Data.func { name := kz "_law_draw", qualname := kz "_law_draw", params := ka31, body := .stmts kb31, scope := kc31, globals := 0, closure := [], defaults := .none, kwdefaults := .none } }), (nat_lit 258, { cls := .none, data := Data.fields #[] }), (nat_lit 261, { cls := .none, data := Data.func { name := kz "_law_gate", qualname := kz "_law_gate", params := ka32, body := .stmts kb32, scope := kc32, globals := 0, closure := [], defaults := .none, kwdefaults := .none } }), (nat_lit 265, { cls := .none, data := Data.fields #[] }), (nat_lit 268, { cls := .none, data := Data.func { name := kz "_law_truths", qualname := kz "_law_truths", params := ka33, body := .stmts kb33, scope := kc33, globals := 0, closure := [], defaults := .none, kwdefaults := .none } }), (nat_lit 272, { cls := .none, data := Data.fields #[] }), (nat_lit 273, { cls := .none, data := Data.func { name := kz "_law_counted", qualname := kz "_law_counted", params := ka34, body := .stmts kb34, scope := kc34, globals := 0, closure := [], defaults := .none, kwdefaults := .none } }), (nat_lit 277, { cls := .none, data := Data.fields #[] }), (nat_lit 278, { cls := .none, data := Data.func { name := kz "_law_number", qualname := kz "_law_number", params := ka35, body := .stmts kb35, scope := kc35, globals := 0, closure := [], defaults := .none, kwdefaults := .none } }), (nat_lit 282, { cls := .none, data := Data.fields #[] }), (nat_lit 283, { cls := .none, data := Data.func { name := kz "_law_reckoned", qualname := kz "_law_reckoned", params := ka36, body := .stmts kb36, scope := kc36, globals := 0, closure := [], defaults := .none, kwdefaults := .none } }), (nat_lit 287, { cls := .none, data := Data.fields #[] }), (nat_lit 288, { cls := .none, data := Data.func { name := kz "_law_known", qualname := kz "_law_known", params := ka37, body := .stmts kb37, scope := kc37, globals := 0, closure := [], defaults := .none, kwdefaults := .none } }), (nat_lit 292, { cls := .none, data := Data.fields #[] }), (nat_lit 293, { cls := .none, data := Data.func { name := kz "_law_is_number", qualname := kz "_law_is_number", params := ka38, body := .stmts kb38, scope := kc38, globals := 0, closure := [], defaults := .none, kwdefaults := .none } }), (nat_lit 297, { cls := .none, data := Data.fields #[] }), (nat_lit 298, { cls := .none, data := Data.func { name := kz "_law_is_gate", qualname := kz "_law_is_gate", params := ka39, body := .stmts kb39, scope := kc39, globals := 0, closure := [], defaults := .none, kwdefaults := .none } }), (nat_lit 302, { cls := .none, data := Data.fields #[] }), (nat_lit 303, { cls := .none, data := Data.func { name := kz "law", qualname := kz "law", params := ka40, body := .stmts kb40, scope := kc40, globals := 0, closure := [], defaults := .none, kwdefaults := .none } })]
noncomputable def mrg : Nat → List (Nat × Obj) → List (Nat × Obj) → List Obj
  | 0, _, _ => []
  | _ + 1, [], ys => ys.map (·.2)
  | _ + 1, x :: xs, [] => (x :: xs).map (·.2)
  | n + 1, x :: xs, y :: ys => match Nat.blt x.1 y.1 with
    | true => x.2 :: mrg n xs (y :: ys)
    | false => y.2 :: mrg n (x :: xs) ys
noncomputable def hl (P : Params) : List Obj := mrg 400 (hoth P) (hd.kraw P)
noncomputable def hH1 (P : Params) : Heap := { objs := ⟨(((hl P).take 15).set 3 (boot_o_3 P)).set 12 { cls := .none, data := Data.fields #[] }⟩ }
noncomputable def hH2 (P : Params) : Heap := { objs := ⟨(((hl P).take 138).set 3 ({ cls := .type "dict", data := Data.dict #[{ hash := kh P (kz "__name__"), key := .str (kz "__name__") 165, val := .str (kz "relfinder.circuit") 353 }, { hash := kh P (kz "__doc__"), key := .str (kz "__doc__") 166, val := .none }, { hash := kh P (kz "__package__"), key := .str (kz "__package__") 167, val := .none }, { hash := kh P (kz "__loader__"), key := .str (kz "__loader__") 168, val := .builtin "__main__.__loader__#\x6fpaque" }, { hash := kh P (kz "__spec__"), key := .str (kz "__spec__") 169, val := .none }, { hash := kh P (kz "__annotations__"), key := .str (kz "__annotations__") 170, val := .ref 6 }, { hash := kh P (kz "__builtins__"), key := .str (kz "__builtins__") 171, val := .ref 4 }, { hash := kh P (kz "__file__"), key := .str (kz "__file__") 173, val := .str (kz "/claim/cut.py") 172 }, { hash := kh P (kz "__cached__"), key := .str (kz "__cached__") 174, val := .none }, { hash := kh P (kz "_wall"), key := .str (kz "_wall") 193, val := .ref 21 }, { hash := kh P (kz "YES"), key := .str (kz "YES") 197, val := .int 1 196 }, { hash := kh P (kz "NO"), key := .str (kz "NO") 200, val := .int (-1) 199 }, { hash := kh P (kz "place_of"), key := .str (kz "place_of") 208, val := .ref 28 }, { hash := kh P (kz "trimmed"), key := .str (kz "trimmed") 216, val := .ref 35 }, { hash := kh P (kz "Binary"), key := .str (kz "Binary") 352, val := .ref 133 }] 15 })).set 12 ({ cls := .none, data := Data.fields #[.int 1 0, .int 0 0, .ref 20, .int 7 0, .int 0 0, .ref 27, .int 9 0, .int 0 0, .ref 34, .int 14 0, .int 0 0, .ref 41] })⟩ }
noncomputable def hH3 (P : Params) : Heap := { objs := ⟨(((hl P).take 250).set 3 ({ cls := .type "dict", data := Data.dict #[{ hash := kh P (kz "__name__"), key := .str (kz "__name__") 165, val := .str (kz "relfinder.circuit") 353 }, { hash := kh P (kz "__doc__"), key := .str (kz "__doc__") 166, val := .none }, { hash := kh P (kz "__package__"), key := .str (kz "__package__") 167, val := .none }, { hash := kh P (kz "__loader__"), key := .str (kz "__loader__") 168, val := .builtin "__main__.__loader__#\x6fpaque" }, { hash := kh P (kz "__spec__"), key := .str (kz "__spec__") 169, val := .none }, { hash := kh P (kz "__annotations__"), key := .str (kz "__annotations__") 170, val := .ref 6 }, { hash := kh P (kz "__builtins__"), key := .str (kz "__builtins__") 171, val := .ref 4 }, { hash := kh P (kz "__file__"), key := .str (kz "__file__") 173, val := .str (kz "/claim/cut.py") 172 }, { hash := kh P (kz "__cached__"), key := .str (kz "__cached__") 174, val := .none }, { hash := kh P (kz "_wall"), key := .str (kz "_wall") 193, val := .ref 21 }, { hash := kh P (kz "YES"), key := .str (kz "YES") 197, val := .int 1 196 }, { hash := kh P (kz "NO"), key := .str (kz "NO") 200, val := .int (-1) 199 }, { hash := kh P (kz "place_of"), key := .str (kz "place_of") 208, val := .ref 28 }, { hash := kh P (kz "trimmed"), key := .str (kz "trimmed") 216, val := .ref 35 }, { hash := kh P (kz "Binary"), key := .str (kz "Binary") 352, val := .ref 133 }, { hash := kh P (kz "Circuit"), key := .str (kz "Circuit") 497, val := .ref 245 }] 16 })).set 12 ({ cls := .none, data := Data.fields #[.int 1 0, .int 0 0, .ref 20, .int 7 0, .int 0 0, .ref 27, .int 9 0, .int 0 0, .ref 34, .int 14 0, .int 0 0, .ref 41, .int 74 0, .int 0 0, .ref 143] })⟩ }
noncomputable def hH4 (P : Params) : Heap := { objs := ⟨hl P⟩ }
noncomputable def hB : List Stmt := behindTheImports PySem.Challenge.pw_nu0269_01
noncomputable def hE : Env := { scope := PySem.Challenge.pw_nu0269_01.main.scope, locals := mainNs, globals := mainNs, cells := [], code := .ref 13, frame := some 14 }
noncomputable def hC : Code := .body hB hE
noncomputable def alt {α : Type} : List α → List α × List α
  | [] => ([], [])
  | x :: r => match alt r with
    | (a, b) => (x :: b, a)
noncomputable def bt : Nat → List Obj → BT
  | 0, _ => .nil
  | _ + 1, [] => .nil
  | n + 1, x :: r => .node x (bt n (alt r).1) (bt n (alt r).2)
noncomputable def tS1 (P : Params) (os : OsState) : SharedT := ⟨bt 10 (hH1 P).objs.toList, 15, {}, Array.mk [], {}, 187, os⟩
noncomputable def tS2 (P : Params) (os : OsState) : SharedT := ⟨bt 10 (hH2 P).objs.toList, 138, {}, Array.mk [], {}, 355, os⟩
noncomputable def tS3 (P : Params) (os : OsState) : SharedT := ⟨bt 10 (hH3 P).objs.toList, 250, {}, Array.mk [], {}, 498, os⟩
noncomputable def tS4 (P : Params) (os : OsState) : SharedT := ⟨bt 10 (hH4 P).objs.toList, 306, {}, Array.mk [], {}, 572, os⟩
theorem ta1 (P : Params) (os : OsState) : (tS1 P os).abs = ⟨hH1 P, Array.mk [], {}, 187, os⟩ := by kernel_rfl
theorem ta2 (P : Params) (os : OsState) : (tS2 P os).abs = ⟨hH2 P, Array.mk [], {}, 355, os⟩ := by kernel_rfl
theorem ta3 (P : Params) (os : OsState) : (tS3 P os).abs = ⟨hH3 P, Array.mk [], {}, 498, os⟩ := by kernel_rfl
theorem ta4 (P : Params) (os : OsState) : (tS4 P os).abs = ⟨hH4 P, Array.mk [], {}, 572, os⟩ := by kernel_rfl
theorem hr0 (w : World) (os : OsState) : topGo treeTable PySem.Challenge.pw_nu0269_01 w 11 (some (.ref 6)) 12 ⟨boot_heap w.params, Array.mk [], boot_drawn, boot_toks, os⟩ (topStub PySem.Challenge.pw_nu0269_01) =
    some (⟨hH1 w.params, Array.mk [], {}, 187, os⟩, ⟨denote treeTable (.body hB hE), hC, ⟨0, 0, 0, 0⟩, [topFrame ⟨0, 0, 0, 0⟩]⟩) := by kernel_rfl
theorem hr1 (w : World) (os : OsState) : segRun treeTable PySem.Challenge.pw_nu0269_01 w 11 (some (.ref 6)) 1 1 ⟨hH1 w.params, Array.mk [], {}, 187, os⟩ (blockOf hB hE hC ⟨0, 0, 0, 0⟩ [topFrame ⟨0, 0, 0, 0⟩]) =
    some (.next, ⟨hH1 w.params, Array.mk [], {}, 187, os⟩, hC, ⟨0, 0, 0, 0⟩) := by kernel_rfl
theorem ht2 (w : World) (os : OsState) : segRunT treeTable PySem.Challenge.pw_nu0269_01 w 11 (some (.ref 6)) 1 764 (tS1 w.params os) (piecesOf (hB.take 8) hE hC ⟨0, 0, 0, 0⟩ [topFrame ⟨0, 0, 0, 0⟩]) =
    some (.next, tS2 w.params os, hC, ⟨73, 0, 73, 8⟩) := by
  delta piecesOf
  rw [Fast.te10110043849684766642, Fast.te14364793385576792824, Fast.te12563942051412417395]
  kernel_rfl
theorem hr2 (w : World) (os : OsState) : segRun treeTable PySem.Challenge.pw_nu0269_01 w 11 (some (.ref 6)) 1 764 ⟨hH1 w.params, Array.mk [], {}, 187, os⟩ (piecesOf (hB.take 8) hE hC ⟨0, 0, 0, 0⟩ [topFrame ⟨0, 0, 0, 0⟩]) =
    some (.next, ⟨hH2 w.params, Array.mk [], {}, 355, os⟩, hC, ⟨73, 0, 73, 8⟩) := by
  have h := segRun_of (ht2 w os)
  rw [ta1, ta2] at h
  exact h
theorem ht3 (w : World) (os : OsState) : segRunT treeTable PySem.Challenge.pw_nu0269_01 w 11 (some (.ref 6)) 1 649 (tS2 w.params os) (piecesOf ((hB.drop 8).take 1) hE hC ⟨73, 0, 73, 8⟩ [topFrame ⟨0, 0, 0, 0⟩]) =
    some (.next, tS3 w.params os, hC, ⟨74, 0, 131, 69⟩) := by
  delta piecesOf
  rw [Fast.te10110043849684766642, Fast.te14364793385576792824, Fast.te12563942051412417395]
  kernel_rfl
theorem hr3 (w : World) (os : OsState) : segRun treeTable PySem.Challenge.pw_nu0269_01 w 11 (some (.ref 6)) 1 649 ⟨hH2 w.params, Array.mk [], {}, 355, os⟩ (piecesOf ((hB.drop 8).take 1) hE hC ⟨73, 0, 73, 8⟩ [topFrame ⟨0, 0, 0, 0⟩]) =
    some (.next, ⟨hH3 w.params, Array.mk [], {}, 498, os⟩, hC, ⟨74, 0, 131, 69⟩) := by
  have h := segRun_of (ht3 w os)
  rw [ta2, ta3] at h
  exact h
theorem ht4 (w : World) (os : OsState) : segRunT treeTable PySem.Challenge.pw_nu0269_01 w 11 (some (.ref 6)) 1 288 (tS3 w.params os) (piecesOf ((hB.drop 8).drop 1) hE hC ⟨74, 0, 131, 69⟩ [topFrame ⟨0, 0, 0, 0⟩]) =
    some (.next, tS4 w.params os, hC, ⟨205, 0, 226, 84⟩) := by
  delta piecesOf
  rw [Fast.te10110043849684766642, Fast.te14364793385576792824, Fast.te12563942051412417395]
  kernel_rfl
theorem hr4 (w : World) (os : OsState) : segRun treeTable PySem.Challenge.pw_nu0269_01 w 11 (some (.ref 6)) 1 288 ⟨hH3 w.params, Array.mk [], {}, 498, os⟩ (piecesOf ((hB.drop 8).drop 1) hE hC ⟨74, 0, 131, 69⟩ [topFrame ⟨0, 0, 0, 0⟩]) =
    some (.next, ⟨hH4 w.params, Array.mk [], {}, 572, os⟩, hC, ⟨205, 0, 226, 84⟩) := by
  have h := segRun_of (ht4 w os)
  rw [ta3, ta4] at h
  exact h
theorem hr5 (w : World) (os : OsState) : topRun treeTable PySem.Challenge.pw_nu0269_01 w 11 (some (.ref 6)) 2 ⟨hH4 w.params, Array.mk [], {}, 572, os⟩ ⟨doneF .next, hC, ⟨205, 0, 226, 84⟩, [topFrame ⟨0, 0, 0, 0⟩]⟩ =
    some ⟨hH4 w.params, Array.mk [], {}, 572, os⟩ := by kernel_rfl
theorem piece_app2 {tb : String → Option Builtin} {p : Program} {w : World} {n₀ : Nat} {ann : Option Value} {env : Env} {q : Pos} {n N : Nat} {s s' r : Shared} {b l rest : List Stmt} {c : Code} {pos p' : Pos} (e : b = l ++ rest)
    (h : segRun tb p w n₀ ann 1 n s (piecesOf l env c pos [topFrame q]) = some (.next, s', c, p'))
    (k : topRun tb p w n₀ ann N s' (restOf rest env c p' [topFrame q]) = some r) : topRun tb p w n₀ ann (n + N) s (restOf b env c pos [topFrame q]) = some r := by
  subst e; exact piece_app h k
theorem hrun (w : World) (os : OsState) : topRun treeTable PySem.Challenge.pw_nu0269_01 w 11 (some (.ref 6)) (12 + (1 + (764 + (649 + (288 + 2))))) ⟨boot_heap w.params, Array.mk [], boot_drawn, boot_toks, os⟩ (topStub PySem.Challenge.pw_nu0269_01) = some ⟨hH4 w.params, Array.mk [], {}, 572, os⟩ :=
  go_top (hr0 w os) (piece_block (hr1 w os) (piece_app2 (List.take_append_drop 8 hB).symm (hr2 w os) (piece_app2 (List.take_append_drop 1 (hB.drop 8)).symm (hr3 w os) (piece_app2 (rest := []) (List.append_nil _).symm (hr4 w os) (piece_nil (hr5 w os))))))
theorem head_size (w : World) : ((boot_heap w.params).isNs mainGlobals && (Array.mk [] : Array GenState).size == 0, (boot_heap w.params).objs.size, (boot_heap w.params).nsMap mainGlobals "__annotations__") = (true, 11, some (Value.ref 6)) := by kernel_rfl
theorem hk_stat (w : World) : staticsOk (importedModules PySem.Challenge.pw_nu0269_01.main.body) (boot_heap w.params) (hH4 w.params) = true := by kernel_rfl
theorem hk_names (w : World) : namesBound PySem.Challenge.pw_nu0269_01 (hH4 w.params) = true := by kernel_rfl
theorem hk_laid (w : World) : laidKept (boot_heap w.params) (hH4 w.params) = true := by kernel_rfl
theorem hs_seen (w : World) (os : OsState) : seen ((recsOf hd.view_39).map (·.name)) (ownsOf hd.view_39) [] { (⟨hH4 w.params, Array.mk [], {}, 572, os⟩ : Shared) with gens := #[] } = expectedOf hd.view_39 := by
  rw [Fast.te5160383126252970620, Fast.te3399658132070893891, Fast.te5991557255702980513]
  kernel_rfl
theorem hs_blt (w : World) : (hH4 w.params).bltView = bltViewBooted := by kernel_rfl
theorem hs_keys (w : World) : (hH4 w.params).keysOk (looseW hd.view_39 []) ((recsOf hd.view_39).map (·.name)) ((litsOf hd.view_39).map (·.1)) ((clssOf hd.view_39 (looseW hd.view_39 [])).map (·.name)) = true := by
  rw [Fast.te3399658132070893891, Fast.te821141287760084731, Fast.te10880121769531294198, Fast.te7409074990110511671, Fast.te13664370479719496447]
  kernel_rfl
theorem hs_acc (w : World) : (hH4 w.params).accountedOkI (importedModules PySem.Challenge.pw_nu0269_01.main.body) = true := by kernel_rfl
theorem hs_main (w : World) : (hH4 w.params).isNs mainGlobals = true := by kernel_rfl
theorem hs_built (w : World) : (hH4 w.params).isNs builtinsNs = true := by kernel_rfl
theorem hs_tbl (w : World) : tablesOk hd.view_39 (hH4 w.params) = true := by kernel_rfl
theorem hs_xt (w : World) (os : OsState) : head_Xt ⟨hH4 w.params, Array.mk [], {}, 572, os⟩ = true := by kernel_rfl
theorem hs_tabs (w : World) (os : OsState) : tabsOk hd.view_39 ⟨hH4 w.params, Array.mk [], {}, 572, os⟩ = true := by
  rw [Fast.te479339242167458305]
  kernel_rfl
theorem hs_pin (w : World) (os : OsState) : pinSeenD hd.view_39 (drecsOf hd.view_39) ⟨hH4 w.params, Array.mk [], {}, 572, os⟩ = pinGoodD (drecsOf hd.view_39) := by
  rw [Fast.te16090120013241838585, Fast.te3247288618530077131]
  kernel_rfl
theorem hs_plE (w : World) (os : OsState) : plainSeenE hd.view_39 (looseW hd.view_39 []) ⟨hH4 w.params, Array.mk [], {}, 572, os⟩ = plainGoodE hd.view_39 (looseW hd.view_39 []) := by
  rw [Fast.te821141287760084731, Fast.te2386780881361962483]
  kernel_rfl
theorem hs_plD (w : World) (os : OsState) : plainSeenD hd.view_39 [] ⟨hH4 w.params, Array.mk [], {}, 572, os⟩ = plainGoodD hd.view_39 [] := by
  rw [Fast.te11698064438423848299]
  kernel_rfl
theorem hs_wide (w : World) (os : OsState) : wideSeen hd.view_39 ⟨hH4 w.params, Array.mk [], {}, 572, os⟩ = wideGood hd.view_39 := by
  rw [Fast.te7317090234206586261]
  kernel_rfl
theorem hs_cls (w : World) (os : OsState) : clsSeenW hd.view_39 [] ⟨hH4 w.params, Array.mk [], {}, 572, os⟩ = clsGoodW hd.view_39 [] := by
  rw [Fast.te7369524293546568484]
  kernel_rfl
theorem hs_obs (w : World) (os : OsState) : (kHook hd.heap_39 head_ads head_as).obs ⟨hH4 w.params, Array.mk [], {}, 572, os⟩ = (kHook hd.heap_39 head_ads head_as).val w := by kernel_rfl
theorem hs_open (w : World) (os : OsState) : openSeen hd.view_39 [] (importedModules PySem.Challenge.pw_nu0269_01.main.body) head_Xt true ⟨hH4 w.params, Array.mk [], {}, 572, os⟩ = openGood hd.view_39 [] := by
  delta openSeen openGood
  refine looks_pair (hs_seen w os) (looks_pair (hs_blt w) (looks_pair ?_ (looks_pair (hs_tabs w os) (looks_pair (hs_pin w os) (looks_pair (hs_plE w os) (looks_pair (hs_plD w os) (looks_pair (hs_wide w os) (hs_cls w os))))))))
  exact look_both (look_both (look_both (look_both (look_both (look_both (hs_keys w) (hs_acc w)) (hs_main w)) (hs_built w)) (hs_tbl w)) (hs_xt w os)) rfl
theorem head_looks (w : World) : (fun os => ((staticsOk (importedModules PySem.Challenge.pw_nu0269_01.main.body) (boot_heap w.params) (hH4 w.params) && namesBound PySem.Challenge.pw_nu0269_01 (hH4 w.params) && gensDone ⟨hH4 w.params, Array.mk [], {}, 572, os⟩ && laidKept (boot_heap w.params) (hH4 w.params)),
    openSeen hd.view_39 [] (importedModules PySem.Challenge.pw_nu0269_01.main.body) head_Xt true ⟨hH4 w.params, Array.mk [], {}, 572, os⟩, (kHook hd.heap_39 head_ads head_as).obs ⟨hH4 w.params, Array.mk [], {}, 572, os⟩)) =
    fun _ => (true, openGood hd.view_39 [], (kHook hd.heap_39 head_ads head_as).val w) := by
  funext os
  exact looks_pair (look_both (look_both (look_both (hk_stat w) (hk_names w)) rfl) (hk_laid w)) (looks_pair (hs_open w os) (hs_obs w os))
theorem head_left : LeftO PySem.Challenge.rw_nu0269_01.row.toRowW.prog hd.view_39 [] head_Xt (kHook hd.heap_39 head_ads head_as).obs (kHook hd.heap_39 head_ads head_as).val 3518 :=
  LeftO.of_pieces (p := PySem.Challenge.pw_nu0269_01) (H₀ := boot_heap) (H₁ := hH4) (boot_open head_opening (by rfl) head_fence) head_size hrun (by rfl) head_looks
theorem w_app (top : Scope) (cx : TablesWhole.Ctx) (sc : Scope) : ∀ (a b : List Stmt), TablesWhole.wSs TablesWhole.holds top cx sc (a ++ b) = (TablesWhole.wSs TablesWhole.holds top cx sc a && TablesWhole.wSs TablesWhole.holds top cx sc b)
  | [], b => by show _ = (true && _); rw [Bool.true_and]; rfl
  | x :: a, b => by
    show (TablesWhole.wS _ _ _ _ x && TablesWhole.wSs _ _ _ _ (a ++ b)) = ((TablesWhole.wS _ _ _ _ x && TablesWhole.wSs _ _ _ _ a) && _)
    rw [w_app top cx sc a b, Bool.and_assoc]
theorem w_parts {top : Scope} {cx : TablesWhole.Ctx} {sc : Scope} {l : List Stmt} (i j : Nat) (a : TablesWhole.wSs TablesWhole.holds top cx sc (l.take i) = true) (b : TablesWhole.wSs TablesWhole.holds top cx sc ((l.drop i).take j) = true) (c : TablesWhole.wSs TablesWhole.holds top cx sc ((l.drop i).drop j) = true) : TablesWhole.wSs TablesWhole.holds top cx sc l = true := by
  rw [← List.take_append_drop i l, w_app, a, ← List.take_append_drop j (l.drop i), w_app, b, c]
  rfl
theorem w_whole {p : Program} (h1 : p.modules = []) (h2 : p.parses = []) (h3 : p.harvested = []) (ht : TablesWhole.wSs TablesWhole.gather p.main.scope ⟨p.main.scope, [], [], [], none⟩ p.main.scope p.main.body = []) (hn : TablesWhole.noTwice p.main.scope = true) (hs : TablesWhole.wSs TablesWhole.holds p.main.scope ⟨p.main.scope, [], [], [], none⟩ p.main.scope p.main.body = true) : p.tablesWhole = true := by
  show TablesWhole.wProgram _ p = true
  unfold TablesWhole.wProgram TablesWhole.wModule
  rw [h1, h2, h3, ht]
  show ((true && (TablesWhole.noTwice p.main.scope && (TablesWhole.wSs TablesWhole.holds p.main.scope ⟨p.main.scope, [], [], [], none⟩ p.main.scope p.main.body && true))) && (true && (true && (true && true)))) = true
  rw [hn, hs]
  rfl
theorem hw_told : TablesWhole.wSs TablesWhole.gather PySem.Challenge.rw_nu0269_01.row.toRowW.prog.main.scope ⟨PySem.Challenge.rw_nu0269_01.row.toRowW.prog.main.scope, [], [], [], none⟩ PySem.Challenge.rw_nu0269_01.row.toRowW.prog.main.scope PySem.Challenge.rw_nu0269_01.row.toRowW.prog.main.body = [] := by kernel_rfl
theorem hw_twice : TablesWhole.noTwice PySem.Challenge.rw_nu0269_01.row.toRowW.prog.main.scope = true := by kernel_rfl
theorem hw_a : TablesWhole.wSs TablesWhole.holds PySem.Challenge.rw_nu0269_01.row.toRowW.prog.main.scope ⟨PySem.Challenge.rw_nu0269_01.row.toRowW.prog.main.scope, [], [], [], none⟩ PySem.Challenge.rw_nu0269_01.row.toRowW.prog.main.scope (PySem.Challenge.rw_nu0269_01.row.toRowW.prog.main.body.take 7) = true := by kernel_rfl
theorem hw_b : TablesWhole.wSs TablesWhole.holds PySem.Challenge.rw_nu0269_01.row.toRowW.prog.main.scope ⟨PySem.Challenge.rw_nu0269_01.row.toRowW.prog.main.scope, [], [], [], none⟩ PySem.Challenge.rw_nu0269_01.row.toRowW.prog.main.scope ((PySem.Challenge.rw_nu0269_01.row.toRowW.prog.main.body.drop 7).take 5) = true := by kernel_rfl
theorem hw_c : TablesWhole.wSs TablesWhole.holds PySem.Challenge.rw_nu0269_01.row.toRowW.prog.main.scope ⟨PySem.Challenge.rw_nu0269_01.row.toRowW.prog.main.scope, [], [], [], none⟩ PySem.Challenge.rw_nu0269_01.row.toRowW.prog.main.scope ((PySem.Challenge.rw_nu0269_01.row.toRowW.prog.main.body.drop 7).drop 5) = true := by kernel_rfl
theorem hw_whole : PySem.Challenge.rw_nu0269_01.row.toRowW.prog.tablesWhole = true := w_whole rfl rfl rfl hw_told hw_twice (w_parts 7 5 hw_a hw_b hw_c)
theorem hd (walk : WalkO hd.view_39 [] (XL hd.view_39 []) (kHook hd.heap_39 head_ads head_as).says PySem.Challenge.rw_nu0269_01.row.toRowW ((defOf hd.view_39 (Str.ofString "law")).get (by kernel_rfl)).1 [] fun f vs => PySem.call f vs) : PySem.Challenge.rw_nu0269_01.Holds := by
  refine holds_law head_law fun said => ?_
  refine holds_open (q := hd.view_39) (loose := []) (Xt := head_Xt) (XP := XL hd.view_39 []) (Yf := (kHook hd.heap_39 head_ads head_as).obs) (Ya := (kHook hd.heap_39 head_ads head_as).val) (YP := (kHook hd.heap_39 head_ads head_as).says) (N := 3518) head_left (kHook hd.heap_39 head_ads head_as).of (kHook hd.heap_39 head_ads head_as).keeps (fun s e => xl_of s (Bool.and_eq_true_iff.mp e).1) XL.keeps (by rfl) (by rfl) (by rfl) (fun s e => recFacts_of (Bool.and_eq_true_iff.mp e).2) (by rfl) said (by decide +kernel) ⟨rfl, rfl, rfl, rfl, rfl, hw_whole⟩ ?hw ?hc
  case hw => w_witness2
  case hc => exact walk
end

end Mine
namespace Mine

inductive Ob where
  | circ | bin | feed | world | kinds | parts | known | numbers

inductive V where
  | none
  | bool (b : Bool)
  | int (i : Int)
  | str (s : Str)
  | tup (l : List V)
  | lst (l : List V)
  | obj (k : Ob)
  | rng (a b c : Int)
  | raw (a : Addr)

/-- the counted objects stand (before they are made all their addresses are one) -/
noncomputable def On (ad : Ob → Addr) : Prop := ad .feed ≠ ad .kinds

noncomputable def PTup (h : Heap) (a : Addr) (xs : List Value) : Prop := ∃ n, h.get? a = some { cls := .type "tuple", data := .seq xs.toArray n }
noncomputable def PLst (h : Heap) (a : Addr) (xs : List Value) : Prop := ∃ n, h.get? a = some { cls := .type "list", data := .seq xs.toArray n }

theorem PTup.isTuple {h : Heap} {a : Addr} {xs : List Value} (x : PTup h a xs) : h.IsTuple a xs.toArray := let ⟨n, e⟩ := x; ⟨_, e, rfl, n, rfl⟩
theorem PLst.isList {h : Heap} {a : Addr} {xs : List Value} (x : PLst h a xs) : h.IsList a xs.toArray := let ⟨n, e⟩ := x; ⟨_, e, rfl, n, rfl⟩
theorem PTup.at {h h' : Heap} {a : Addr} {xs : List Value} (x : PTup h a xs) (k : ∀ o, h.get? a = some o → h'.get? a = some o) : PTup h' a xs := let ⟨n, e⟩ := x; ⟨n, k _ e⟩
theorem PLst.at {h h' : Heap} {a : Addr} {xs : List Value} (x : PLst h a xs) (k : ∀ o, h.get? a = some o → h'.get? a = some o) : PLst h' a xs := let ⟨n, e⟩ := x; ⟨n, k _ e⟩

mutual
noncomputable def Rep (ad : Ob → Addr) (F : Addr → Prop) (h : Heap) : V → Value → Prop
  | .none, v => v = .none
  | .bool b, v => v = .bool b
  | .int i, v => ∃ t, v = .int i t
  | .str x, v => ∃ t, v = .str x t
  | .tup l, v => ∃ a xs, v = .ref a ∧ F a ∧ PTup h a xs ∧ RepL ad F h l xs ∧ l.length ≤ sizeLine
  | .lst l, v => ∃ a xs, v = .ref a ∧ F a ∧ PLst h a xs ∧ RepL ad F h l xs ∧ l.length ≤ sizeLine
  | .obj k, v => v = .ref (ad k) ∧ On ad
  | .raw a, v => v = .ref a
  | .rng a b d, v => ∃ x t u w, v = .ref x ∧ F x ∧ IsRange h x a b d t u w ∧ Builtin.Range.small a b d = true
noncomputable def RepL (ad : Ob → Addr) (F : Addr → Prop) (h : Heap) : List V → List Value → Prop
  | [], xs => xs = []
  | v :: l, xs => ∃ x r, xs = x :: r ∧ Rep ad F h v x ∧ RepL ad F h l r
end

noncomputable def Later (F : Addr → Prop) (h : Heap) (F' : Addr → Prop) (h' : Heap) : Prop :=
  (∀ a, F a → F' a) ∧ ∀ a o, F a → h.get? a = some o → h'.get? a = some o
theorem Later.refl (F : Addr → Prop) (h : Heap) : Later F h F h := ⟨fun _ x => x, fun _ _ _ e => e⟩
theorem Later.trans {F₁ F₂ F₃ : Addr → Prop} {h₁ h₂ h₃ : Heap} (x : Later F₁ h₁ F₂ h₂) (y : Later F₂ h₂ F₃ h₃) : Later F₁ h₁ F₃ h₃ :=
  ⟨fun a f => y.1 a (x.1 a f), fun a o f e => y.2 a o (x.1 a f) (x.2 a o f e)⟩

section
variable {ad : Ob → Addr} {F F' : Addr → Prop} {h h' : Heap}
mutual
theorem Rep.later (L : Later F h F' h') : ∀ {v : V} {x : Value}, Rep ad F h v x → Rep ad F' h' v x
  | .none, _, r => r
  | .bool _, _, r => r
  | .int _, _, r => r
  | .str _, _, r => r
  | .tup _, _, ⟨a, xs, e, f, p, r, z⟩ => ⟨a, xs, e, L.1 a f, p.at fun o q => L.2 a o f q, RepL.later L r, z⟩
  | .lst _, _, ⟨a, xs, e, f, p, r, z⟩ => ⟨a, xs, e, L.1 a f, p.at fun o q => L.2 a o f q, RepL.later L r, z⟩
  | .obj _, _, r => r
  | .rng _ _ _, _, ⟨x, t, u, w, e, f, p, z⟩ => ⟨x, t, u, w, e, L.1 x f, L.2 x _ f p, z⟩
  | .raw _, _, r => r
theorem RepL.later (L : Later F h F' h') : ∀ {l : List V} {xs : List Value}, RepL ad F h l xs → RepL ad F' h' l xs
  | [], _, r => r
  | _ :: _, _, ⟨x, r, e, q, t⟩ => ⟨x, r, e, Rep.later L q, RepL.later L t⟩
end

theorem RepL.length : ∀ {l : List V} {xs : List Value}, RepL ad F h l xs → l.length = xs.length
  | [], _, rfl => rfl
  | _ :: _, _, ⟨_, _, e, _, t⟩ => by subst e; simp [RepL.length t]
theorem RepL.get : ∀ {l : List V} {xs : List Value}, RepL ad F h l xs → ∀ {i : Nat} {v : V}, l[i]? = some v → ∃ x, xs[i]? = some x ∧ Rep ad F h v x
  | [], _, _, i, v, e => by simp at e
  | w :: l, _, ⟨x, r, rfl, q, t⟩, 0, v, e => by simp at e; subst e; exact ⟨x, by simp, q⟩
  | w :: l, _, ⟨x, r, rfl, q, t⟩, i + 1, v, e => by
    obtain ⟨y, hy, ry⟩ := RepL.get t (i := i) (v := v) (by simpa using e)
    exact ⟨y, by simpa using hy, ry⟩
theorem RepL.append : ∀ {l m : List V} {xs ys : List Value}, RepL ad F h l xs → RepL ad F h m ys → RepL ad F h (l ++ m) (xs ++ ys)
  | [], _, _, _, rfl, r => r
  | _ :: _, _, _, _, ⟨x, r, rfl, q, t⟩, s => ⟨x, r ++ _, rfl, q, RepL.append t s⟩
theorem RepL.one {v : V} {x : Value} (r : Rep ad F h v x) : RepL ad F h [v] [x] := ⟨x, [], rfl, r, rfl⟩
theorem RepL.take : ∀ {l : List V} {xs : List Value} (n : Nat), RepL ad F h l xs → RepL ad F h (l.take n) (xs.take n)
  | [], _, n, rfl => by simp [RepL]
  | _ :: _, _, 0, _ => by simp [RepL]
  | _ :: _, _, n + 1, ⟨x, r, rfl, q, t⟩ => ⟨x, r.take n, rfl, q, RepL.take n t⟩
theorem RepL.drop : ∀ {l : List V} {xs : List Value} (n : Nat), RepL ad F h l xs → RepL ad F h (l.drop n) (xs.drop n)
  | [], _, n, rfl => by simp [RepL]
  | _ :: _, _, 0, r => r
  | _ :: _, _, n + 1, ⟨x, r, rfl, q, t⟩ => RepL.drop n t
theorem RepL.of_get : ∀ {l : List V} {xs : List Value}, l.length = xs.length → (∀ (i : Nat) (v : V) (x : Value), l[i]? = some v → xs[i]? = some x → Rep ad F h v x) → RepL ad F h l xs
  | [], [], _, _ => rfl
  | v :: l, x :: xs, e, k => ⟨x, xs, rfl, k 0 v x rfl rfl, RepL.of_get (by simpa using e) fun i w y a b => k (i + 1) w y (by simpa using a) (by simpa using b)⟩
  | [], _ :: _, e, _ => by simp at e
  | _ :: _, [], e, _ => by simp at e
theorem RepL.ints : ∀ {l : List Int} {xs : List Value}, RepL ad F h (l.map V.int) xs → IntsAre xs l
  | [], _, rfl => .nil
  | i :: l, _, ⟨x, r, rfl, q₁, q⟩ => by
    obtain ⟨t, rfl⟩ : ∃ t, x = .int i t := q₁
    exact .cons i t (RepL.ints q)
end

/-- the counted state of the run -/
structure G where
  kinds : List Str
  parts : List (List Int)
  known : List (List Int × Int)
  at_ : Int
  cells : List Int
  inputs : List Int
  numbers : List V
  ready : Bool
  done : Bool

structure Cx where
  prog : Program
  w : World
  ad : Ob → Addr
  live : Addr

noncomputable def GM (c : Cx) (a : Addr) : Prop := On c.ad ∧ (a = c.ad .feed ∨ a = c.ad .kinds ∨ a = c.ad .parts ∨ a = c.ad .known ∨ a = c.live ∨ a = c.ad .world)

noncomputable def Cx.K (c : Cx) : Frag := hd.heap_39 c.w.params

noncomputable def circF (ad : Ob → Addr) (y : Str) : Option Value :=
  if y = Str.ofString "kinds" then some (.ref (ad .kinds)) else if y = Str.ofString "parts_now" then some (.ref (ad .parts)) else if y = Str.ofString "known" then some (.ref (ad .known)) else none
noncomputable def binF (ad : Ob → Addr) (y : Str) : Option Value := if y = Str.ofString "circuit" then some (.ref (ad .circ)) else none

noncomputable def KnRep (F : Addr → Prop) : List (List Int × Int) → List (List Int × Addr × Value) → Prop
  | [], xs => xs = []
  | y :: l, xs => ∃ a t r, xs = (y.1, a, .int y.2 t) :: r ∧ F a ∧ KnRep F l r

structure GRepT (c : Cx) (F : Addr → Prop) (h : Heap) (g : G) : Prop where
  circ : ∃ dx od, F (c.ad .circ) ∧ F dx ∧ h.get? (c.ad .circ) = some (instObj 245 dx) ∧ h.get? dx = some od ∧ ∀ y, lookIn y od = some (circF c.ad y)
  bin : ∃ dx od, F (c.ad .bin) ∧ F dx ∧ h.get? (c.ad .bin) = some (instObj 133 dx) ∧ h.get? dx = some od ∧ ∀ y, lookIn y od = some (binF c.ad y)
  world : (g.ready = false ∧ h.DictOf (strKind c.prog c.w) (c.ad .world) [(Str.ofString "circuit", .ref (c.ad .circ)), (Str.ofString "binary", .ref (c.ad .bin)), (Str.ofString "numbers", .ref (c.ad .numbers))]) ∨
    (g.ready = true ∧ ∃ il xs, F il ∧ PLst h il xs ∧ RepL c.ad F h (g.inputs.map .int) xs ∧ g.inputs.length ≤ sizeLine ∧
    h.DictOf (strKind c.prog c.w) (c.ad .world) [(Str.ofString "circuit", .ref (c.ad .circ)), (Str.ofString "binary", .ref (c.ad .bin)), (Str.ofString "numbers", .ref (c.ad .numbers)), (Str.ofString "inputs", .ref il)])
  feed : ∃ ca xs t, F ca ∧ PLst h ca xs ∧ RepL c.ad F h (g.cells.map .int) xs ∧ g.cells.length ≤ sizeLine ∧
    h.DictOf (strKind c.prog c.w) (c.ad .feed) [(Str.ofString "cells", .ref ca), (Str.ofString "at", .int g.at_ t)]
  kinds : ∃ xs, PLst h (c.ad .kinds) xs ∧ RepL c.ad F h (g.kinds.map .str) xs ∧ g.kinds.length ≤ sizeLine
  parts : ∃ xs, PLst h (c.ad .parts) xs ∧ RepL c.ad F h (g.parts.map fun l => .tup (l.map .int)) xs ∧ g.parts.length ≤ sizeLine
  known : ∃ xs, h.DictOfH (tupleKind (intKind c.prog c.w)) (c.ad .known) xs ∧ KnRep F g.known xs ∧ g.known.length ≤ sizeLine
  numbers : ∃ xs, PLst h (c.ad .numbers) xs ∧ RepL c.ad F h g.numbers xs ∧ g.numbers.length ≤ sizeLine
  live : (g.done = false ∧ c.live = c.ad .numbers) ∨ (g.done = true ∧ F (c.ad .numbers) ∧ c.live = c.ad .feed)
  apart : [c.ad .feed, c.ad .kinds, c.ad .parts, c.ad .known, c.ad .numbers, c.ad .world].Nodup
  nsys : (c.ad .known == sysModules) = false
structure GRep (c : Cx) (F : Addr → Prop) (h : Heap) (g : G) : Prop where
  real : On c.ad → GRepT c F h g
  nf : ∀ a, F a → ¬ GM c a

structure Stat (c : Cx) (F : Addr → Prop) (h : Heap) : Prop where
  K : ∀ a o, c.K.lookup a = some o → F a ∧ h.get? a = some o
  b : F builtinsNs ∧ ∃ mb, h.Ns builtinsNs mb ∧ ∀ x : Str, x ≠ "__name__" → mb x = bootBuiltins x
  lim : F cStatics ∧ h.NoLimit
  mg : F mainGlobals ∧ ∃ mg, h.Ns mainGlobals mg

theorem Stat.In {c : Cx} {F : Addr → Prop} {h : Heap} (S : Stat c F h) : c.K.In h := fun a o e => (S.K a o e).2

theorem Stat.later {c : Cx} {F F' : Addr → Prop} {h h' : Heap} (S : Stat c F h) (L : Later F h F' h') : Stat c F' h' where
  K := fun a o e => ⟨L.1 a (S.K a o e).1, L.2 a o (S.K a o e).1 (S.K a o e).2⟩
  b := by obtain ⟨f, mb, n, q⟩ := S.b; exact ⟨L.1 _ f, mb, n.at' fun o e => L.2 _ o f e, q⟩
  lim := by obtain ⟨f, mc, n, q⟩ := S.lim; exact ⟨L.1 _ f, mc, n.at' fun o e => L.2 _ o f e, q⟩
  mg := by obtain ⟨f, mg, n⟩ := S.mg; exact ⟨L.1 _ f, mg, n.at' fun o e => L.2 _ o f e⟩

theorem DictOf.at {K : Type} [DecidableEq K] {prog : Program} {w : World} {knd : KeyKind prog w K} {h h' : Heap} {a : Addr} {kvs : List (K × Value)} (x : h.DictOf knd a kvs)
    (k : ∀ o, h.get? a = some o → h'.get? a = some o) : h'.DictOf knd a kvs := let ⟨o, es, ep, e, r⟩ := x; ⟨o, es, ep, k _ e, r⟩

theorem KnRep.mono {F F' : Addr → Prop} (m : ∀ a, F a → F' a) : ∀ {l : List (List Int × Int)} {xs : List (List Int × Addr × Value)}, KnRep F l xs → KnRep F' l xs
  | [], _, e => e
  | _ :: _, _, ⟨a, t, r, e, f, q⟩ => ⟨a, t, r, e, m a f, KnRep.mono m q⟩
theorem KnRep.froz {F : Addr → Prop} : ∀ {l : List (List Int × Int)} {xs : List (List Int × Addr × Value)}, KnRep F l xs → ∀ x ∈ xs, F x.2.1
  | [], _, e, x, hx => by rw [show _ = [] from e] at hx; cases hx
  | y :: l, _, ⟨a, t, r, e, f, q⟩, x, hx => by
    subst e
    rcases List.mem_cons.mp hx with rfl | hx
    · exact f
    · exact KnRep.froz q x hx

theorem dictOfH_at {c : Cx} {h h' : Heap} {d : Addr} {xs : List (List Int × Addr × Value)} (x : h.DictOfH (tupleKind (intKind c.prog c.w)) d xs) (k : ∀ o, h.get? d = some o → h'.get? d = some o)
    (kk : ∀ y ∈ xs, ∀ o, h.get? y.2.1 = some o → h'.get? y.2.1 = some o) : h'.DictOfH (tupleKind (intKind c.prog c.w)) d xs := by
  obtain ⟨o, es, ep, e, a, b, d, i, n⟩ := x
  refine ⟨o, es, ep, k _ e, a, b, d, fun y hy => ?_, n⟩
  obtain ⟨o', items, n', q, r⟩ := i y hy
  exact ⟨o', items, n', kk y hy _ q, r⟩

/-- the counted state stands at a later heap where the mutable addresses stand as they stood -/
theorem gmi {c : Cx} {a : Addr} (hon : On c.ad) (h : a = c.ad .feed ∨ a = c.ad .kinds ∨ a = c.ad .parts ∨ a = c.ad .known ∨ a = c.live ∨ a = c.ad .world) : GM c a := ⟨hon, h⟩
theorem GRep.same' {c : Cx} {F F' : Addr → Prop} {h h' : Heap} {g : G} (R : GRep c F h g) (L : Later F h F' h') (m : ∀ a, GM c a → ∀ o, h.get? a = some o → h'.get? a = some o) (hon : On c.ad) : GRepT c F' h' g where
  circ := by obtain ⟨dx, od, f1, f2, e1, e2, q⟩ := (R.real hon).circ; exact ⟨dx, od, L.1 _ f1, L.1 _ f2, L.2 _ _ f1 e1, L.2 _ _ f2 e2, q⟩
  bin := by obtain ⟨dx, od, f1, f2, e1, e2, q⟩ := (R.real hon).bin; exact ⟨dx, od, L.1 _ f1, L.1 _ f2, L.2 _ _ f1 e1, L.2 _ _ f2 e2, q⟩
  world := by
    rcases (R.real hon).world with ⟨e, d⟩ | ⟨e, il, xs, fi, p, r, z, d⟩
    · exact .inl ⟨e, DictOf.at d (m _ (gmi hon <| .inr (.inr (.inr (.inr (.inr rfl))))))⟩
    · exact .inr ⟨e, il, xs, L.1 _ fi, p.at fun o => L.2 _ o fi, r.later L, z, DictOf.at d (m _ (gmi hon <| .inr (.inr (.inr (.inr (.inr rfl))))))⟩
  feed := by obtain ⟨ca, xs, t, fi, p, r, z, d⟩ := (R.real hon).feed; exact ⟨ca, xs, t, L.1 _ fi, p.at fun o => L.2 _ o fi, r.later L, z, DictOf.at d (m _ (gmi hon <| .inl rfl))⟩
  kinds := by obtain ⟨xs, p, r, z⟩ := (R.real hon).kinds; exact ⟨xs, p.at (m _ (gmi hon <| .inr (.inl rfl))), r.later L, z⟩
  parts := by obtain ⟨xs, p, r, z⟩ := (R.real hon).parts; exact ⟨xs, p.at (m _ (gmi hon <| .inr (.inr (.inl rfl)))), r.later L, z⟩
  known := by obtain ⟨xs, p, r, z⟩ := (R.real hon).known; exact ⟨xs, dictOfH_at p (m _ (gmi hon <| .inr (.inr (.inr (.inl rfl))))) (fun y hy o => L.2 _ o (r.froz y hy)), r.mono L.1, z⟩
  numbers := by obtain ⟨xs, p, r, z⟩ := (R.real hon).numbers; exact ⟨xs, p.at ((R.real hon).live.elim (fun e => e.2 ▸ m _ (gmi hon <| .inr (.inr (.inr (.inr (.inl rfl)))))) fun e o => L.2 _ o e.2.1), r.later L, z⟩
  live := (R.real hon).live.imp id fun ⟨a, b, d⟩ => ⟨a, L.1 _ b, d⟩
  apart := (R.real hon).apart
  nsys := (R.real hon).nsys

theorem GRep.same {c : Cx} {F F' : Addr → Prop} {h h' : Heap} {g : G} (R : GRep c F h g) (L : Later F h F' h') (m : ∀ a, GM c a → ∀ o, h.get? a = some o → h'.get? a = some o)
    (nf : ∀ a, F' a → ¬ GM c a) : GRep c F' h' g := ⟨R.same' L m, nf⟩

theorem GRep.there {c : Cx} {F : Addr → Prop} {h : Heap} {g : G} (R : GRep c F h g) : ∀ a, GM c a → ∃ o, h.get? a = some o := by
  rintro a ⟨hon, m⟩
  rcases m with rfl | rfl | rfl | rfl | rfl | rfl
  · obtain ⟨_, _, _, _, _, _, _, o, _, _, e, _⟩ := (R.real hon).feed; exact ⟨_, e⟩
  · obtain ⟨_, ⟨n, e⟩, _⟩ := (R.real hon).kinds; exact ⟨_, e⟩
  · obtain ⟨_, ⟨n, e⟩, _⟩ := (R.real hon).parts; exact ⟨_, e⟩
  · obtain ⟨_, ⟨o, _, _, e, _⟩, _⟩ := (R.real hon).known; exact ⟨_, e⟩
  · rcases (R.real hon).live with ⟨_, e0⟩ | ⟨_, _, e0⟩
    · obtain ⟨_, ⟨n, e⟩, _⟩ := (R.real hon).numbers; exact ⟨_, e0 ▸ e⟩
    · obtain ⟨_, _, _, _, _, _, _, o, _, _, e, _⟩ := (R.real hon).feed; exact ⟨_, e0 ▸ e⟩
  · rcases (R.real hon).world with ⟨_, o, _, _, e, _⟩ | ⟨_, _, _, _, _, _, _, o, _, _, e, _⟩ <;> exact ⟨_, e⟩

inductive Own where
  | none
  | lst (x : Str) (a : Addr) (l : List V) (wr : Bool)
  | dct (x : Str) (a : Addr) (ks : List Int)

noncomputable def Own.isAt : Own → Str → Bool
  | .none, _ => false
  | .lst x _ _ _, y => x == y
  | .dct x _ _, y => x == y

structure St where
  loc : Str → Option V
  own : Own
  g : G

structure Act where
  env : Env
  h₀ : Heap
  F₀ : Addr → Prop
  pins : List (Addr × Obj)

structure ActOk (c : Cx) (sc : List (Str × NameKind)) (X : Act) : Prop where
  kind : X.env.scope.kind = .function
  glob : X.env.globals = mainGlobals
  blt : X.env.builtins = builtinsNs
  loc : ∀ x, sc.lookup x = some .local → X.env.kindOf x = some .local
  gl : ∀ x, sc.lookup x = some .globalImplicit → X.env.kindOf x = some .globalImplicit
  cell : ∀ x, sc.lookup x = some .cell → X.env.kindOf x = some .cell ∧ ∃ a, X.env.cells.lookup x = some a ∧ X.h₀.get? a = none
  free : ∀ x, sc.lookup x = some .free → (X.env.kindOf x = some .cell ∨ X.env.kindOf x = some .free) ∧ ∃ a, X.env.cells.lookup x = some a
  inj : ∀ x y a, X.env.cells.lookup x = some a → X.env.cells.lookup y = some a → x = y
  Lnew : X.h₀.get? X.env.locals = none
  Lgm : ¬ GM c X.env.locals
  cgm : ∀ x a, X.env.cells.lookup x = some a → ¬ GM c a ∧ a ≠ X.env.locals
  pin : ∀ p ∈ X.pins, p.1 ≠ X.env.locals ∧ ¬ GM c p.1 ∧ ∀ x a, X.env.cells.lookup x = some a → p.1 ≠ a

noncomputable def Stored (env : Env) (h : Heap) (x : Str) (v : Value) : Prop :=
  (env.kindOf x = some .local ∧ ∃ m, h.Ns env.locals m ∧ m x = some v) ∨
  ((env.kindOf x = some .cell ∨ env.kindOf x = some .free) ∧ ∃ a, env.cells.lookup x = some a ∧ h.IsCell a (some v))

noncomputable def OwnWr (c : Cx) (X : Act) (a : Addr) : Prop := X.h₀.get? a = none ∧ ¬ GM c a ∧ ∀ p ∈ X.pins, p.1 ≠ a

noncomputable def DctAt (c : Cx) (h : Heap) (a : Addr) (ks : List Int) : Prop := h.DictOf (intKind c.prog c.w) a (ks.map fun k => (k, Value.bool true)) ∧ (a == sysModules) = false
theorem DctAt.at {c : Cx} {h h' : Heap} {a : Addr} {ks : List Int} (x : DctAt c h a ks) (k : ∀ o, h.get? a = some o → h'.get? a = some o) : DctAt c h' a ks := ⟨DictOf.at x.1 k, x.2⟩

noncomputable def OwnOk (c : Cx) (X : Act) (F : Addr → Prop) (h : Heap) : Own → Prop
  | .none => True
  | .lst x a l wr => ∃ xs, Stored X.env h x (.ref a) ∧ ¬ F a ∧ ¬ GM c a ∧ a ≠ X.env.locals ∧ (∀ y b, X.env.cells.lookup y = some b → b ≠ a) ∧ PLst h a xs ∧ RepL c.ad F h l xs ∧ l.length ≤ sizeLine ∧ (∀ p ∈ X.pins, p.1 ≠ a) ∧ (wr = true → OwnWr c X a)
  | .dct x a ks => Stored X.env h x (.ref a) ∧ ¬ F a ∧ a ≠ X.env.locals ∧ (∀ y b, X.env.cells.lookup y = some b → b ≠ a) ∧ DctAt c h a ks ∧ OwnWr c X a

structure Good (c : Cx) (X : Act) (F : Addr → Prop) (h : Heap) (st : St) : Prop where
  stat : Stat c F h
  g : GRep c F h st.g
  froz : ∀ a, F a → ∃ o, h.get? a = some o
  fnew : ∀ a, F a → X.F₀ a ∨ X.h₀.get? a = none
  kept : ∀ a o, X.h₀.get? a = some o → ¬ GM c a → h.get? a = some o
  ns : ∃ m, h.Ns X.env.locals m
  LF : ¬ F X.env.locals
  cells : ∀ x a, X.env.cells.lookup x = some a → (∃ v, h.IsCell a v) ∧ ¬ F a
  pins : ∀ p ∈ X.pins, h.get? p.1 = some p.2 ∧ ¬ F p.1
  loc : ∀ x v, st.loc x = some v → ∃ u, Stored X.env h x u ∧ Rep c.ad F h v u
  own : OwnOk c X F h st.own
  noloc : ∀ x, st.own.isAt x = true → st.loc x = none

theorem Stored.at {env : Env} {h h' : Heap} {x : Str} {v : Value} (s : Stored env h x v) (kL : ∀ o, h.get? env.locals = some o → h'.get? env.locals = some o)
    (kc : ∀ y a, env.cells.lookup y = some a → ∀ o, h.get? a = some o → h'.get? a = some o) : Stored env h' x v := by
  rcases s with ⟨k, m, n, e⟩ | ⟨k, a, l, o, e, d⟩
  · exact .inl ⟨k, m, n.at' kL, e⟩
  · exact .inr ⟨k, a, l, o, kc x a l o e, d⟩

/-- the frame's rule: a heap that stands at the frozen and at the activation's own, and a counted state there -/
theorem Good.move {c : Cx} {sc : List (Str × NameKind)} {X : Act} {F F' : Addr → Prop} {h h' : Heap} {st : St} {g' : G} (R : Good c X F h st) (L : Later F h F' h') (hg : GRep c F' h' g')
    (froz : ∀ a, F' a → ∃ o, h'.get? a = some o)
    (fnew : ∀ a, F' a → F a ∨ h.get? a = none)
    (k : ∀ a o, h.get? a = some o → ¬ GM c a → h'.get? a = some o) (ok : ActOk c sc X) : Good c X F' h' { st with g := g' } where
  stat := R.stat.later L
  g := hg
  froz := froz
  fnew := fun a f => (fnew a f).elim (R.fnew a) fun e => by
    cases q : X.h₀.get? a with
    | none => exact .inr rfl
    | some o =>
      by_cases m : GM c a
      · exact absurd m (hg.nf a f)
      · rw [R.kept a o q m] at e; cases e
  kept := fun a o e m => k a o (R.kept a o e m) m
  ns := by obtain ⟨m, n⟩ := R.ns; exact ⟨m, n.at' fun o e => k _ o e ok.Lgm⟩
  LF := fun f => (fnew _ f).elim R.LF fun e => by obtain ⟨m, o, es, ep, q, _⟩ := R.ns; rw [e] at q; cases q
  cells := fun x a l => by
    obtain ⟨⟨v, o, e, d⟩, nf⟩ := R.cells x a l
    exact ⟨⟨v, o, k a o e (ok.cgm x a l).1, d⟩, fun f => (fnew a f).elim nf fun q => by rw [e] at q; cases q⟩
  pins := fun p hp => by
    obtain ⟨e, nf⟩ := R.pins p hp
    exact ⟨k _ _ e (ok.pin p hp).2.1, fun f => (fnew _ f).elim nf fun q => by rw [e] at q; cases q⟩
  loc := fun x v e => by
    obtain ⟨u, s, r⟩ := R.loc x v e
    exact ⟨u, s.at (fun o q => k _ o q ok.Lgm) (fun y a l o q => k a o q (ok.cgm y a l).1), r.later L⟩
  own := by
    have q := R.own
    cases ho : st.own with
    | none => trivial
    | lst x a l wr =>
      rw [ho] at q
      obtain ⟨xs, s, nf, ng, nL, nc, p, r, z, pn, w⟩ := q
      have nf' : ¬ F' a := fun f => (fnew _ f).elim nf fun q => by obtain ⟨n, e⟩ := p; rw [e] at q; cases q
      exact ⟨xs, s.at (fun o q => k _ o q ok.Lgm) (fun y a l o q => k a o q (ok.cgm y a l).1), nf', ng, nL, nc, p.at fun o q => k _ o q ng, r.later L, z, pn, w⟩
    | dct x a ks =>
      rw [ho] at q
      obtain ⟨s, nf, nL, nc, p, w⟩ := q
      have nf' : ¬ F' a := fun f => (fnew _ f).elim nf fun q => by obtain ⟨⟨o, _, _, e, _⟩, _⟩ := p; rw [e] at q; cases q
      exact ⟨s.at (fun o q => k _ o q ok.Lgm) (fun y a l o q => k a o q (ok.cgm y a l).1), nf', nL, nc, DctAt.at p fun o q => k _ o q w.2.1, w⟩
  noloc := R.noloc
end Mine

namespace Mine

structure Room (A : Around) (n : Nat) : Prop where
  h : A.handled = none
  d : A.depth + n ≤ 600
  u : A.units + 8 * n ≤ 5000

noncomputable def Does (c : Cx) (n : Nat) (sc : List (Str × NameKind)) {α β : Type} (R : (Addr → Prop) → Heap → β → α → Prop) (t : Env → Sem α) (T : St → (β → St → Prop) → Prop) : Prop :=
  ∀ (A : Around) (X : Act) (F : Addr → Prop) (s : Shared) (st : St) (P : β → St → Prop) (Q : α → Shared → Prop),
    Room A n → ActOk c sc X → Good c X F s.heap st → T st P →
    (∀ F' h' tk v r st', Good c X F' h' st' → Later F s.heap F' h' → R F' h' r v → P r st' → Q v { s with heap := h', toks := tk }) →
    wpAny (model c.prog c.w) A (t X.env) Q (fun _ _ => False) s

abbrev SemE (c : Cx) (n : Nat) (sc : List (Str × NameKind)) (e : Expr) (T : St → (V → St → Prop) → Prop) : Prop := Does c n sc (Rep c.ad) (eval e) T
abbrev SemT (c : Cx) (n : Nat) (sc : List (Str × NameKind)) (e : Expr) (T : St → (Bool → St → Prop) → Prop) : Prop := Does c n sc (fun _ _ b v => v = b) (fun env => isTrue e env (eval e env)) T
abbrev SemA (c : Cx) (n : Nat) (sc : List (Str × NameKind)) (pos : Pos) (es : List Expr) (T : St → (List V → St → Prop) → Prop) : Prop :=
  Does c n sc (RepL c.ad) (fun env => spliced (backTo pos (starEach es env))) T

section
variable {c : Cx} {n : Nat} {sc : List (Str × NameKind)} {X : Act} {F : Addr → Prop} {h h' : Heap} {st : St}

theorem Good.grow (R : Good c X F h st) (ok : ActOk c sc X) (k : ∀ b o, h.get? b = some o → h'.get? b = some o) (Z : Addr → Prop) (hz : ∀ a, Z a → h.get? a = none ∧ ∃ o, h'.get? a = some o) :
    Good c X (fun a => F a ∨ Z a) h' st ∧ Later F h (fun a => F a ∨ Z a) h' := by
  have L : Later F h (fun a => F a ∨ Z a) h' := ⟨fun a f => .inl f, fun a o _ e => k a o e⟩
  have nf : ∀ a, (F a ∨ Z a) → ¬ GM c a := by
    rintro a (f | z)
    · exact R.g.nf a f
    · intro m
      obtain ⟨o, e⟩ := R.g.there a m
      rw [(hz a z).1] at e; cases e
  refine ⟨?_, L⟩
  have := R.move (F' := fun a => F a ∨ Z a) (h' := h') (g' := st.g) L (R.g.same L (fun a _ o e => k a o e) nf) (fun a q => ?_) (fun a q => ?_) (fun a o e _ => k a o e) ok
  · exact this
  · rcases q with f | z
    · obtain ⟨o, e⟩ := R.froz a f; exact ⟨o, k _ _ e⟩
    · exact (hz a z).2
  · exact q.imp id fun z => (hz a z).1

theorem Good.keepAll (R : Good c X F h st) (ok : ActOk c sc X) (k : ∀ b o, h.get? b = some o → h'.get? b = some o) : Good c X F h' st := by
  have L : Later F h F h' := ⟨fun a f => f, fun a o _ e => k a o e⟩
  exact R.move L (R.g.same L (fun a _ o e => k a o e) R.g.nf) (fun a f => let ⟨o, e⟩ := R.froz a f; ⟨o, k _ _ e⟩) (fun a f => .inl f) (fun a o e _ => k a o e) ok
theorem Later.keepAll (k : ∀ b o, h.get? b = some o → h'.get? b = some o) : Later F h F h' := ⟨fun a f => f, fun a o _ e => k a o e⟩

theorem none_at_size (h : Heap) : h.get? h.objs.size = none := by
  cases e : h.get? h.objs.size with
  | none => rfl
  | some o => exact absurd (Heap.lt_size e) (Nat.lt_irrefl _)

theorem rep_int {ad : Ob → Addr} (i : Int) (t : Tok) : Rep ad F h (.int i) (.int i t) := ⟨t, rfl⟩
theorem rep_str {ad : Ob → Addr} (i : Str) (t : Tok) : Rep ad F h (.str i) (.str i t) := ⟨t, rfl⟩
theorem rep_bool {ad : Ob → Addr} (b : Bool) : Rep ad F h (.bool b) (.bool b) := rfl
theorem rep_none {ad : Ob → Addr} : Rep ad F h .none .none := rfl
theorem rep_obj {ad : Ob → Addr} (hon : On ad) (k : Ob) : Rep ad F h (.obj k) (.ref (ad k)) := ⟨rfl, hon⟩
theorem rep_tup {ad : Ob → Addr} {l : List V} {a : Addr} {xs : List Value} (f : F a) (p : PTup h a xs) (r : RepL ad F h l xs) (z : l.length ≤ sizeLine) : Rep ad F h (.tup l) (.ref a) := ⟨a, xs, rfl, f, p, r, z⟩
theorem rep_lst {ad : Ob → Addr} {l : List V} {a : Addr} {xs : List Value} (f : F a) (p : PLst h a xs) (r : RepL ad F h l xs) (z : l.length ≤ sizeLine) : Rep ad F h (.lst l) (.ref a) := ⟨a, xs, rfl, f, p, r, z⟩

/-- a new frozen tuple, a new frozen list -/
theorem new_tup {A : Around} {s : Shared} {l : List V} {xs : List Value} {P : V → St → Prop} {Q : Value → Shared → Prop} {M : Model} (g : Good c X F s.heap st) (ok : ActOk c sc X) (r : RepL c.ad F s.heap l xs) (z : l.length ≤ sizeLine) (hp : P (.tup l) st)
    (hq : ∀ F' h' tk v r st', Good c X F' h' st' → Later F s.heap F' h' → Rep c.ad F' h' r v → P r st' → Q v { s with heap := h', toks := tk }) :
    wpAny M A (newTuple xs) Q (fun _ _ => False) s := by
  refine wpAny_newObj_type ?_ (by show xs.toArray.size ≤ sizeLine; rw [List.size_toArray, ← r.length]; exact z)
  obtain ⟨g', L⟩ := g.grow ok (h' := s.heap.push { cls := .type "tuple", data := .seq xs.toArray }) (fun b o e => Heap.get?_push_of_some _ e) (fun z => z = s.heap.objs.size) (fun a e => by subst e; exact ⟨none_at_size _, _, Heap.get?_push_size _ rfl⟩)
  exact hq _ _ s.toks _ _ _ g' L (rep_tup (.inr rfl) ⟨0, Heap.get?_push_size _ rfl⟩ (r.later L) z) hp
theorem new_lst {A : Around} {s : Shared} {l : List V} {xs : List Value} {P : V → St → Prop} {Q : Value → Shared → Prop} {M : Model} (g : Good c X F s.heap st) (ok : ActOk c sc X) (r : RepL c.ad F s.heap l xs) (z : l.length ≤ sizeLine) (hp : P (.lst l) st)
    (hq : ∀ F' h' tk v r st', Good c X F' h' st' → Later F s.heap F' h' → Rep c.ad F' h' r v → P r st' → Q v { s with heap := h', toks := tk }) :
    wpAny M A (newList xs) Q (fun _ _ => False) s := by
  refine wpAny_newObj_type ?_ (by show xs.toArray.size ≤ sizeLine; rw [List.size_toArray, ← r.length]; exact z)
  obtain ⟨g', L⟩ := g.grow ok (h' := s.heap.push { cls := .type "list", data := .seq xs.toArray }) (fun b o e => Heap.get?_push_of_some _ e) (fun z => z = s.heap.objs.size) (fun a e => by subst e; exact ⟨none_at_size _, _, Heap.get?_push_size _ rfl⟩)
  exact hq _ _ s.toks _ _ _ g' L (rep_lst (.inr rfl) ⟨0, Heap.get?_push_size _ rfl⟩ (r.later L) z) hp
end

section
variable {c : Cx} {n : Nat} {sc : List (Str × NameKind)}

-- constants
theorem e_int {i : Int} {k : Nat} {pos : Pos} : SemE c n sc (.Constant (.int i) k pos) (fun st P => P (.int i) st) :=
  fun A X F s st P Q rm ok g ht hq => wpAny_Constant_int (hq F s.heap _ _ _ st g (.refl _ _) (rep_int _ _) ht)
theorem e_str {x : Str} {k : Nat} {pos : Pos} : SemE c n sc (.Constant (.str x) k pos) (fun st P => P (.str x) st) :=
  fun A X F s st P Q rm ok g ht hq => Constant_str (hq F s.heap _ _ _ st g (.refl _ _) (rep_str _ _) ht)
theorem e_bool {b : Bool} {k : Nat} {pos : Pos} : SemE c n sc (.Constant (.bool b) k pos) (fun st P => P (.bool b) st) :=
  fun A X F s st P Q rm ok g ht hq => Constant_bool (hq F s.heap s.toks _ _ st g (.refl _ _) (rep_bool _) ht)

-- names
noncomputable def T_name (x : Str) (st : St) (P : V → St → Prop) : Prop := match st.loc x with
  | some v => P v st
  | none => False
theorem load_stored {M : Model} {A : Around} {env : Env} {s : Shared} {x : Str} {v : Value} {Q : Value → Shared → Prop} {E : Value → Shared → Prop} (hk : env.scope.kind = .function) (S : Stored env s.heap x v) (h : Q v s)
    (hn : (x == ("__classdict__" : Str)) = false) : wpAny M A (loadName env x) Q E s := by
  rcases S with ⟨k, m, hm, e⟩ | ⟨k | k, a, l, hc⟩
  · exact wpAny_loadName_local hk k hm e h
  · exact wpAny_loadName_cell hk k l hc h
  · exact wpAny_loadName_free hk k l hc h hn
theorem e_name {x : Str} {pos : Pos} (hd : (x == ("__debug__" : Str)) = false) (hn : (x == ("__classdict__" : Str)) = false) : SemE c n sc (.Name x pos) (T_name x) := by
  intro A X F s st P Q rm ok g ht hq
  unfold T_name at ht
  cases e : st.loc x with
  | none => rw [e] at ht; exact ht.elim
  | some v =>
    rw [e] at ht
    obtain ⟨u, S, r⟩ := g.loc x v e
    exact wpAny_Name (load_stored ok.kind S (hq F s.heap s.toks u v st g (.refl _ _) r ht) hn) hd
theorem e_glob {x : Str} {pos : Pos} {i : Int} {t : Tok} (hd : (x == ("__debug__" : Str)) = false) (hs : sc.lookup x = some .globalImplicit) (hk : nsIn c.K mainGlobals x = some (some (.int i t))) :
    SemE c n sc (.Name x pos) (fun st P => P (.int i) st) := by
  intro A X F s st P Q rm ok g ht hq
  obtain ⟨_, mg, hm⟩ := g.stat.mg
  refine Name_function_global ok.kind (ok.gl x hs) (loadGlobal_global (by rw [ok.glob]; exact hm) (mg_of g.stat.In hm hk) ?_) hd
  exact hq F s.heap s.toks _ _ st g (.refl _ _) (rep_int _ _) ht

-- two operands
noncomputable def onInt : V → (Int → Prop) → Prop
  | .int i, k => k i
  | _, _ => False
noncomputable def onBool : V → (Bool → Prop) → Prop
  | .bool b, k => k b
  | _, _ => False
theorem onInt_elim {v : V} {k : Int → Prop} (h : onInt v k) : ∃ i, v = .int i ∧ k i := by cases v <;> first | exact h.elim | exact ⟨_, rfl, h⟩
theorem onBool_elim {v : V} {k : Bool → Prop} (h : onBool v k) : ∃ b, v = .bool b ∧ k b := by cases v <;> first | exact h.elim | exact ⟨_, rfl, h⟩

noncomputable def onStr : V → (Str → Prop) → Prop
  | .str b, k => k b
  | _, _ => False
noncomputable def onTup : V → (List V → Prop) → Prop
  | .tup b, k => k b
  | _, _ => False
noncomputable def onLst : V → (List V → Prop) → Prop
  | .lst b, k => k b
  | _, _ => False
theorem onStr_elim {v : V} {k : Str → Prop} (h : onStr v k) : ∃ b, v = .str b ∧ k b := by cases v <;> first | exact h.elim | exact ⟨_, rfl, h⟩
theorem onTup_elim {v : V} {k : List V → Prop} (h : onTup v k) : ∃ b, v = .tup b ∧ k b := by cases v <;> first | exact h.elim | exact ⟨_, rfl, h⟩
theorem onLst_elim {v : V} {k : List V → Prop} (h : onLst v k) : ∃ b, v = .lst b ∧ k b := by cases v <;> first | exact h.elim | exact ⟨_, rfl, h⟩

noncomputable def T2 (Tl Tr : St → (V → St → Prop) → Prop) (f : V → V → St → (V → Prop) → Prop) (st : St) (P : V → St → Prop) : Prop :=
  Tl st fun a st1 => Tr st1 fun b st2 => f a b st2 fun v => P v st2

noncomputable def Pure2 (c : Cx) (n : Nat) (t : Value → Value → Sem Value) (f : V → V → St → (V → Prop) → Prop) : Prop :=
  ∀ (sc : List (Str × NameKind)) (A : Around) (X : Act) (F : Addr → Prop) (s : Shared) (st : St) (k : V → Prop) (Q : Value → Shared → Prop) (a b : V) (x y : Value), Room A n → ActOk c sc X → Good c X F s.heap st → Rep c.ad F s.heap a x → Rep c.ad F s.heap b y → f a b st k →
    (∀ F' h' tk v r, Good c X F' h' st → Later F s.heap F' h' → Rep c.ad F' h' r v → k r → Q v { s with heap := h', toks := tk }) → wpAny (model c.prog c.w) A (t x y) Q (fun _ _ => False) s

theorem e_bin {l r : Expr} {op : Operator} {pos : Pos} {Tl Tr : St → (V → St → Prop) → Prop} {f : V → V → St → (V → Prop) → Prop} (hp : Pure2 c n (binaryOp op) f) (hl : SemE c n sc l Tl) (hr : SemE c n sc r Tr) :
    SemE c n sc (.BinOp l op r pos) (T2 Tl Tr f) := by
  intro A X F s st P Q rm ok g ht hq
  refine wpAny_BinOp (hl A X F s st _ _ rm ok g ht fun F1 h1 tk1 x a st1 g1 L1 r1 p1 => ?_)
  refine hr A X F1 _ st1 _ _ rm ok g1 p1 fun F2 h2 tk2 y b st2 g2 L2 r2 p2 => ?_
  exact hp sc A X F2 _ st2 _ _ a b x y rm ok g2 (r1.later L2) r2 p2 fun F3 h3 tk3 v r g3 L3 r3 p3 => hq F3 h3 tk3 v r st2 g3 ((L1.trans L2).trans L3) r3 p3

noncomputable def bAdd (a b : V) (_ : St) (k : V → Prop) : Prop := onInt a fun i => onInt b fun j => k (.int (i + j))
noncomputable def bSub (a b : V) (_ : St) (k : V → Prop) : Prop := onInt a fun i => onInt b fun j => k (.int (i - j))
noncomputable def bMul (a b : V) (_ : St) (k : V → Prop) : Prop := onInt a fun i => onInt b fun j => (i.natAbs < 2 ^ 64 ∧ j.natAbs < 2 ^ 64) ∧ k (.int (i * j))
noncomputable def bMod (a b : V) (_ : St) (k : V → Prop) : Prop := onInt a fun i => onInt b fun j => j ≠ 0 ∧ k (.int (i.fmod j))
noncomputable def bDiv (a b : V) (_ : St) (k : V → Prop) : Prop := onInt a fun i => onInt b fun j => (j ≠ 0 ∧ i.natAbs < 2 ^ 30 ∧ j.natAbs < 2 ^ 30) ∧ k (.int (i.fdiv j))
noncomputable def bShl (a b : V) (_ : St) (k : V → Prop) : Prop := onInt a fun i => onInt b fun j => (0 ≤ j ∧ j ≤ 1000 ∧ i.natAbs < 2 ^ 64) ∧ k (.int (i * 2 ^ j.toNat))
noncomputable def bShr (a b : V) (_ : St) (k : V → Prop) : Prop := onInt a fun i => onInt b fun j => 0 ≤ j ∧ k (.int (i.fdiv (2 ^ j.toNat)))
noncomputable def bAnd (a b : V) (_ : St) (k : V → Prop) : Prop := onInt a fun i => onInt b fun j => k (.int (Builtin.bitAnd i j))

theorem b_add : Pure2 c n (binaryOp .Add) bAdd := by
  intro sc A X F s st k Q a b x y rm ok g ra rb hf hq
  obtain ⟨i, rfl, hf1⟩ := onInt_elim hf
  obtain ⟨j, rfl, hf⟩ := onInt_elim hf1
  obtain ⟨t, rfl⟩ : ∃ t, x = .int i t := ra
  obtain ⟨u, rfl⟩ : ∃ t, y = .int j t := rb
  exact wpAny_add_int (hq F s.heap _ _ _ g (.refl _ _) (rep_int _ _) hf)
theorem b_sub : Pure2 c n (binaryOp .Sub) bSub := by
  intro sc A X F s st k Q a b x y rm ok g ra rb hf hq
  obtain ⟨i, rfl, hf1⟩ := onInt_elim hf
  obtain ⟨j, rfl, hf⟩ := onInt_elim hf1
  obtain ⟨t, rfl⟩ : ∃ t, x = .int i t := ra
  obtain ⟨u, rfl⟩ : ∃ t, y = .int j t := rb
  exact sub_int' (hq F s.heap _ _ _ g (.refl _ _) (rep_int _ _) hf)
theorem b_mul : Pure2 c n (binaryOp .Mult) bMul := by
  intro sc A X F s st k Q a b x y rm ok g ra rb hf hq
  obtain ⟨i, rfl, hf1⟩ := onInt_elim hf
  obtain ⟨j, rfl, hf⟩ := onInt_elim hf1
  obtain ⟨t, rfl⟩ : ∃ t, x = .int i t := ra
  obtain ⟨u, rfl⟩ : ∃ t, y = .int j t := rb
  obtain ⟨hz, hf⟩ := hf
  refine PyProof.Rows.mul_int (hq F s.heap _ _ _ g (.refl _ _) (rep_int _ _) hf) (PySem.IntMulOk.of_left (PySem.intBits_le_64 ?_ ?_)) <;> lia
theorem b_mod : Pure2 c n (binaryOp .Mod) bMod := by
  intro sc A X F s st k Q a b x y rm ok g ra rb hf hq
  obtain ⟨i, rfl, hf1⟩ := onInt_elim hf
  obtain ⟨j, rfl, hf⟩ := onInt_elim hf1
  obtain ⟨t, rfl⟩ : ∃ t, x = .int i t := ra
  obtain ⟨u, rfl⟩ : ∃ t, y = .int j t := rb
  exact PyProof.Rows.mod_int' hf.1 (hq F s.heap _ _ _ g (.refl _ _) (rep_int _ _) hf.2)
theorem b_div : Pure2 c n (binaryOp .FloorDiv) bDiv := by
  intro sc A X F s st k Q a b x y rm ok g ra rb hf hq
  obtain ⟨i, rfl, hf1⟩ := onInt_elim hf
  obtain ⟨j, rfl, hf⟩ := onInt_elim hf1
  obtain ⟨t, rfl⟩ : ∃ t, x = .int i t := ra
  obtain ⟨u, rfl⟩ : ∃ t, y = .int j t := rb
  exact PyProof.Rows.floordiv_int hf.1.1 (hq F s.heap _ _ _ g (.refl _ _) (rep_int _ _) hf.2) (.inl (PyProof.noPylong_small (by lia)))
theorem b_shl : Pure2 c n (binaryOp .LShift) bShl := by
  intro sc A X F s st k Q a b x y rm ok g ra rb hf hq
  obtain ⟨i, rfl, hf1⟩ := onInt_elim hf
  obtain ⟨j, rfl, hf⟩ := onInt_elim hf1
  obtain ⟨t, rfl⟩ : ∃ t, x = .int i t := ra
  obtain ⟨u, rfl⟩ : ∃ t, y = .int j t := rb
  obtain ⟨⟨h0, h1, h2⟩, hf⟩ := hf
  exact PyProof.Rows.lshift_int_small h0 (by lia) h2 (hq F s.heap _ _ _ g (.refl _ _) (rep_int _ _) hf)
theorem b_shr : Pure2 c n (binaryOp .RShift) bShr := by
  intro sc A X F s st k Q a b x y rm ok g ra rb hf hq
  obtain ⟨i, rfl, hf1⟩ := onInt_elim hf
  obtain ⟨j, rfl, hf⟩ := onInt_elim hf1
  obtain ⟨t, rfl⟩ : ∃ t, x = .int i t := ra
  obtain ⟨u, rfl⟩ : ∃ t, y = .int j t := rb
  exact PyProof.Rows.rshift_int hf.1 (hq F s.heap _ _ _ g (.refl _ _) (rep_int _ _) hf.2)
theorem b_and : Pure2 c n (binaryOp .BitAnd) bAnd := by
  intro sc A X F s st k Q a b x y rm ok g ra rb hf hq
  obtain ⟨i, rfl, hf1⟩ := onInt_elim hf
  obtain ⟨j, rfl, hf⟩ := onInt_elim hf1
  obtain ⟨t, rfl⟩ : ∃ t, x = .int i t := ra
  obtain ⟨u, rfl⟩ : ∃ t, y = .int j t := rb
  exact PyProof.Rows.and_int (hq F s.heap _ _ _ g (.refl _ _) (rep_int _ _) hf)

-- unary minus
theorem e_neg {x : Expr} {pos : Pos} {T : St → (V → St → Prop) → Prop} (hx : SemE c n sc x T) : SemE c n sc (.UnaryOp .USub x pos) (fun st P => T st fun a st1 => onInt a fun i => P (.int (-i)) st1) := by
  intro A X F s st P Q rm ok g ht hq
  refine UnaryOp_ (hx A X F s st _ _ rm ok g ht fun F1 h1 tk1 x a st1 g1 L1 r1 p1 => ?_)
  obtain ⟨i, rfl, hf⟩ := onInt_elim p1
  obtain ⟨t, rfl⟩ : ∃ t, x = .int i t := r1
  exact PyProof.Rows.neg_int (hq F1 h1 _ _ _ st1 g1 L1 (rep_int _ _) hf)

-- comparisons of plain values
theorem e_cmp {l r : Expr} {op : CmpOp} {pos : Pos} {Tl Tr : St → (V → St → Prop) → Prop} {f : V → V → St → (V → Prop) → Prop} (hp : Pure2 c n (compareOp op) f) (hl : SemE c n sc l Tl) (hr : SemE c n sc r Tr) (hm : behindInMarks op r = false) :
    SemE c n sc (.Compare l [op] [r] pos) (T2 Tl Tr f) := by
  intro A X F s st P Q rm ok g ht hq
  refine wpAny_Compare1 (hl A X F s st _ _ rm ok g ht fun F1 h1 tk1 x a st1 g1 L1 r1 p1 => ?_) hm
  refine hr A X F1 _ st1 _ _ rm ok g1 p1 fun F2 h2 tk2 y b st2 g2 L2 r2 p2 => ?_
  exact hp sc A X F2 _ st2 _ _ a b x y rm ok g2 (r1.later L2) r2 p2 fun F3 h3 tk3 v r g3 L3 r3 p3 => hq F3 h3 tk3 v r st2 g3 ((L1.trans L2).trans L3) r3 p3
theorem t_cmp {l r : Expr} {op : CmpOp} {pos : Pos} {Tl Tr : St → (V → St → Prop) → Prop} {f : V → V → St → (V → Prop) → Prop} (hp : Pure2 c n (compareOp op) f) (hl : SemE c n sc l Tl) (hr : SemE c n sc r Tr) (hm : behindInMarks op r = false) :
    SemT c n sc (.Compare l [op] [r] pos) (fun st P => Tl st fun a st1 => Tr st1 fun b st2 => f a b st2 fun v => onBool v fun t => P t st2) := by
  intro A X F s st P Q rm ok g ht hq
  refine wpAny_isTrue_Compare1 (hl A X F s st _ _ rm ok g ht fun F1 h1 tk1 x a st1 g1 L1 r1 p1 => ?_) hm
  refine hr A X F1 _ st1 _ _ rm ok g1 p1 fun F2 h2 tk2 y b st2 g2 L2 r2 p2 => ?_
  refine hp sc A X F2 _ st2 _ _ a b x y rm ok g2 (r1.later L2) r2 p2 fun F3 h3 tk3 v r g3 L3 r3 p3 => ?_
  obtain ⟨t, rfl, p3⟩ := onBool_elim p3
  obtain rfl : v = .bool t := r3
  exact wpAny_truthy_bool (hq F3 h3 tk3 _ _ st2 g3 ((L1.trans L2).trans L3) rfl p3)

noncomputable def cLt (a b : V) (_ : St) (k : V → Prop) : Prop := onInt a fun i => onInt b fun j => k (.bool (decide (i < j)))
noncomputable def cLe (a b : V) (_ : St) (k : V → Prop) : Prop := onInt a fun i => onInt b fun j => k (.bool (decide (i ≤ j)))
noncomputable def cGt (a b : V) (_ : St) (k : V → Prop) : Prop := onInt a fun i => onInt b fun j => k (.bool (decide (j < i)))
theorem c_lt : Pure2 c n (compareOp .Lt) cLt := by
  intro sc A X F s st k Q a b x y rm ok g ra rb hf hq
  obtain ⟨i, rfl, hf1⟩ := onInt_elim hf
  obtain ⟨j, rfl, hf⟩ := onInt_elim hf1
  obtain ⟨t, rfl⟩ : ∃ t, x = .int i t := ra
  obtain ⟨u, rfl⟩ : ∃ t, y = .int j t := rb
  exact wpAny_lt_int (hq F s.heap s.toks _ _ g (.refl _ _) (rep_bool _) hf)
theorem c_le : Pure2 c n (compareOp .LtE) cLe := by
  intro sc A X F s st k Q a b x y rm ok g ra rb hf hq
  obtain ⟨i, rfl, hf1⟩ := onInt_elim hf
  obtain ⟨j, rfl, hf⟩ := onInt_elim hf1
  obtain ⟨t, rfl⟩ : ∃ t, x = .int i t := ra
  obtain ⟨u, rfl⟩ : ∃ t, y = .int j t := rb
  exact PyProof.Rows.le_int (hq F s.heap s.toks _ _ g (.refl _ _) (rep_bool _) hf)
theorem c_gt : Pure2 c n (compareOp .Gt) cGt := by
  intro sc A X F s st k Q a b x y rm ok g ra rb hf hq
  obtain ⟨i, rfl, hf1⟩ := onInt_elim hf
  obtain ⟨j, rfl, hf⟩ := onInt_elim hf1
  obtain ⟨t, rfl⟩ : ∃ t, x = .int i t := ra
  obtain ⟨u, rfl⟩ : ∃ t, y = .int j t := rb
  exact PyProof.Rows.gt_int (hq F s.heap s.toks _ _ g (.refl _ _) (rep_bool _) hf)
end
end Mine

namespace Mine

noncomputable def ix {α : Type} (l : List α) (j : Int) : Option α := (seqIndex? j l.length).bind fun k => l[k]?

theorem if_elim {c p : Prop} [Decidable c] (h : if c then p else False) : c ∧ p := by
  by_cases hc : c
  · rw [if_pos hc] at h; exact ⟨hc, h⟩
  · rw [if_neg hc] at h; exact h.elim
theorem or_ife {c a b : Prop} [Decidable c] (h : if c then a else b) : (c ∧ a) ∨ b := by
  by_cases hc : c
  · rw [if_pos hc] at h; exact .inl ⟨hc, h⟩
  · rw [if_neg hc] at h; exact .inr h
noncomputable def onSub (o i : V) (st : St) (k : V → Prop) : Prop := match o with
  | .tup l => onInt i fun j => ∃ v, ix l j = some v ∧ k v
  | .lst l => onInt i fun j => ∃ v, ix l j = some v ∧ k v
  | .obj .kinds => onInt i fun j => ∃ v, ix st.g.kinds j = some v ∧ k (.str v)
  | .obj .parts => onInt i fun j => ∃ v, ix st.g.parts j = some v ∧ k (.tup (v.map .int))
  | .obj .numbers => onInt i fun j => ∃ v, ix st.g.numbers j = some v ∧ k v
  | .obj .known => onTup i fun l => ∃ p n, l = p.map .int ∧ st.g.known.lookup p = some n ∧ k (.int n)
  | .obj .feed => onStr i fun s => if s = Str.ofString "cells" then k (.lst (st.g.cells.map .int)) else if s = Str.ofString "at" then k (.int st.g.at_) else False
  | .obj .world => onStr i fun s => if s = Str.ofString "circuit" then k (.obj .circ) else if s = Str.ofString "binary" then k (.obj .bin) else if s = Str.ofString "numbers" then k (.obj .numbers) else if s = Str.ofString "inputs" then (st.g.ready = true ∧ k (.lst (st.g.inputs.map .int))) else False
  | _ => False

section
variable {c : Cx} {n : Nat} {sc : List (Str × NameKind)}
variable {A : Around} {s : Shared} {E : Value → Shared → Prop} {Q : Value → Shared → Prop}

theorem seqIndex_cases {j : Int} {n k : Nat} (h : seqIndex? j n = some k) : (0 ≤ j ∧ j < n ∧ k = j.toNat) ∨ (j < 0 ∧ 0 ≤ j + n ∧ k = (j + n).toNat) := by
  by_cases h0 : j < 0
  · simp only [seqIndex?, if_pos h0, Option.ite_none_right_eq_some, Bool.and_eq_true, decide_eq_true_eq, Option.some.injEq] at h
    exact .inr ⟨h0, h.1.1, h.2.symm⟩
  · simp only [seqIndex?, if_neg h0, Option.ite_none_right_eq_some, Bool.and_eq_true, decide_eq_true_eq, Option.some.injEq] at h
    exact .inl ⟨h.1.1, h.1.2, h.2.symm⟩
theorem seqIndex_fit {j : Int} {n k : Nat} (hn : n ≤ sizeLine) (h : seqIndex? j n = some k) : -(2 ^ 63) ≤ j ∧ j < 2 ^ 63 := by
  have hz : sizeLine = 16777216 := rfl
  rcases seqIndex_cases h with h | h <;> lia
theorem strIs {c : Cx} (x : Str) (t : Tok) : (PySem.strKind c.prog c.w).is x (.str x t) = true := by
  show (x == x) = true
  simp

theorem getItem_lst {l : Addr} {xs : List Value} {j : Int} {t : Tok} {k : Nat} {x : Value} (hl : PLst s.heap l xs) (hn : xs.length ≤ sizeLine) (hk : seqIndex? j xs.length = some k) (hx : xs[k]? = some x) (h : Q x s) :
    wpAny (model c.prog c.w) A (getItem (.ref l) (.int j t)) Q E s := by
  obtain ⟨f1, f2⟩ := seqIndex_fit hn hk
  have hL := hl.isList
  rcases seqIndex_cases hk with ⟨h0, h1, rfl⟩ | ⟨h0, h1, rfl⟩
  · exact wpAny_getItem_list hL h0 f2 (by simpa using hx) h
  · exact wpAny_getItem_list_neg hL h0 (by simp only [List.size_toArray]; lia) f1 (by simpa using hx) h

theorem getItem_tup {l : Addr} {xs : List Value} {j : Int} {t : Tok} {k : Nat} {x : Value} (hl : PTup s.heap l xs) (hn : xs.length ≤ sizeLine) (hk : seqIndex? j xs.length = some k) (hx : xs[k]? = some x) (h : Q x s) :
    wpAny (model c.prog c.w) A (getItem (.ref l) (.int j t)) Q E s := by
  obtain ⟨f1, f2⟩ := seqIndex_fit hn hk
  obtain ⟨m, e⟩ := hl
  exact P.getItem_tuple (n := m) e f1 f2 (by simpa using hk) (by simpa using hx) h

theorem RepL.ix {ad : Ob → Addr} {F : Addr → Prop} {h : Heap} {l : List V} {xs : List Value} {j : Int} {v : V} (r : RepL ad F h l xs) (e : Mine.ix l j = some v) : ∃ k x, seqIndex? j xs.length = some k ∧ xs[k]? = some x ∧ Rep ad F h v x := by
  unfold Mine.ix at e
  obtain ⟨k, hk, hv⟩ := Option.bind_eq_some_iff.mp e
  obtain ⟨x, hx, q⟩ := r.get hv
  exact ⟨k, x, by rw [← r.length]; exact hk, hx, q⟩

theorem KnRep.at {F : Addr → Prop} : ∀ {l : List (List Int × Int)} {xs : List (List Int × Addr × Value)} (k : List Int), KnRep F l xs →
    (l.lookup k = none → atKey xs k = none) ∧ ∀ n, l.lookup k = some n → ∃ a t, atKey xs k = some (a, .int n t)
  | [], _, k, e => by rw [show _ = [] from e]; exact ⟨fun _ => rfl, fun n h => by cases h⟩
  | y :: l, _, k, ⟨a, t, r, e, f, q⟩ => by
    subst e
    obtain ⟨ih1, ih2⟩ := KnRep.at k q
    obtain ⟨y1, y2⟩ := y
    by_cases hk : k = y1
    · subst hk
      simp [atKey]
    · have hb : (k == y1) = false := by simpa using hk
      have hd : ¬ y1 = k := fun e => hk e.symm
      simp only [List.lookup_cons, hb, atKey, List.find?_cons, hd, decide_false]
      exact ⟨fun h => by simpa [atKey] using ih1 h, fun n h => by simpa [atKey] using ih2 n h⟩

theorem RepL.keyItems {ad : Ob → Addr} {F : Addr → Prop} {h : Heap} : ∀ {l : List Int} {xs : List Value}, RepL ad F h (l.map V.int) xs → ItemsAre (intKind c.prog c.w) l xs
  | [], _, rfl => .nil
  | i :: l, _, ⟨x, r, rfl, q₁, q⟩ => by
    obtain ⟨t, rfl⟩ : ∃ t, x = .int i t := q₁
    exact .cons (by simp [intKind, Value.isInt]) (RepL.keyItems q)
theorem Rep.key {F : Addr → Prop} {h : Heap} {l : List Int} {a : Addr} (r : Rep c.ad F h (.tup (l.map V.int)) (.ref a)) : (tupleKind (intKind c.prog c.w)).is h l a := by
  obtain ⟨a', xs, e, f, ⟨n, p⟩, q, z⟩ := r
  cases e
  exact ⟨_, xs.toArray, n, p, rfl, rfl, by simpa using RepL.keyItems q⟩

theorem getItem_sub : ∀ (sc : List (Str × NameKind)) (A : Around) (X : Act) (F : Addr → Prop) (s : Shared) (st : St) (k : V → Prop) (Q : Value → Shared → Prop) (a b : V) (x y : Value), Room A n → ActOk c sc X → Good c X F s.heap st → Rep c.ad F s.heap a x → Rep c.ad F s.heap b y → onSub a b st k →
    (∀ F' h' tk v r, Good c X F' h' st → Later F s.heap F' h' → Rep c.ad F' h' r v → k r → Q v { s with heap := h', toks := tk }) →
    ∃ T id, s.TypeIs x T ∧ typeLookup (.type T) "__getitem__" = pure (some (.builtin id)) ∧ wpAny (model c.prog c.w) A (getItem x y) Q (fun _ _ => False) s := by
  intro sc A X F s st k Q a b x y rm ok g ra rb hf hq
  have fin : ∀ v r, Rep c.ad F s.heap r v → k r → Q v s := fun v r h1 h2 => hq F s.heap s.toks v r g (.refl _ _) h1 h2
  have fin1 : ∀ v r tk, Rep c.ad F s.heap r v → k r → Q v { s with toks := tk } := fun v r tk h1 h2 => hq F s.heap tk v r g (.refl _ _) h1 h2
  cases a with
  | tup l =>
    obtain ⟨j, rfl, hf⟩ := onInt_elim hf
    obtain ⟨v, e, hk⟩ := hf
    obtain ⟨a', xs, rfl, f, p, r, z⟩ := ra
    obtain ⟨t, rfl⟩ : ∃ t, y = .int j t := rb
    obtain ⟨i, u, h1, h2, h3⟩ := r.ix e
    exact ⟨"tuple", _, p.isTuple.typeIs, PySem.F.slot_tuple_getitem.lookup, getItem_tup p (by rw [← r.length]; exact z) h1 h2 (fin _ _ h3 hk)⟩
  | lst l =>
    obtain ⟨j, rfl, hf⟩ := onInt_elim hf
    obtain ⟨v, e, hk⟩ := hf
    obtain ⟨a', xs, rfl, f, p, r, z⟩ := ra
    obtain ⟨t, rfl⟩ : ∃ t, y = .int j t := rb
    obtain ⟨i, u, h1, h2, h3⟩ := r.ix e
    exact ⟨"list", _, p.isList.typeIs, slot_list_getitem.lookup, getItem_lst p (by rw [← r.length]; exact z) h1 h2 (fin _ _ h3 hk)⟩
  | obj ob =>
    cases ob with
    | kinds =>
      obtain ⟨j, rfl, hf⟩ := onInt_elim hf
      obtain ⟨v, e, hk⟩ := hf
      obtain ⟨rfl, hon⟩ : x = .ref (c.ad .kinds) ∧ On c.ad := ra
      obtain ⟨t, rfl⟩ : ∃ t, y = .int j t := rb
      obtain ⟨xs, p, r, z⟩ := (g.g.real hon).kinds
      have e' : ix (st.g.kinds.map V.str) j = some (.str v) := by unfold ix at e ⊢; simp only [List.length_map]; cases q : seqIndex? j st.g.kinds.length with
        | none => rw [q] at e; cases e
        | some i => rw [q] at e; simp only [Option.bind_some] at e ⊢; simp [e]
      obtain ⟨i, u, h1, h2, h3⟩ := r.ix e'
      exact ⟨"list", _, p.isList.typeIs, slot_list_getitem.lookup, getItem_lst p (by rw [← r.length, List.length_map]; exact z) h1 h2 (fin _ _ h3 hk)⟩
    | parts =>
      obtain ⟨j, rfl, hf⟩ := onInt_elim hf
      obtain ⟨v, e, hk⟩ := hf
      obtain ⟨rfl, hon⟩ : x = .ref (c.ad .parts) ∧ On c.ad := ra
      obtain ⟨t, rfl⟩ : ∃ t, y = .int j t := rb
      obtain ⟨xs, p, r, z⟩ := (g.g.real hon).parts
      have e' : ix (st.g.parts.map fun l => V.tup (l.map .int)) j = some (.tup (v.map .int)) := by unfold ix at e ⊢; simp only [List.length_map]; cases q : seqIndex? j st.g.parts.length with
        | none => rw [q] at e; cases e
        | some i => rw [q] at e; simp only [Option.bind_some] at e ⊢; simp [e]
      obtain ⟨i, u, h1, h2, h3⟩ := r.ix e'
      exact ⟨"list", _, p.isList.typeIs, slot_list_getitem.lookup, getItem_lst p (by rw [← r.length, List.length_map]; exact z) h1 h2 (fin _ _ h3 hk)⟩
    | numbers =>
      obtain ⟨j, rfl, hf⟩ := onInt_elim hf
      obtain ⟨v, e, hk⟩ := hf
      obtain ⟨rfl, hon⟩ : x = .ref (c.ad .numbers) ∧ On c.ad := ra
      obtain ⟨t, rfl⟩ : ∃ t, y = .int j t := rb
      obtain ⟨xs, p, r, z⟩ := (g.g.real hon).numbers
      obtain ⟨i, u, h1, h2, h3⟩ := r.ix e
      exact ⟨"list", _, p.isList.typeIs, slot_list_getitem.lookup, getItem_lst p (by rw [← r.length]; exact z) h1 h2 (fin _ _ h3 hk)⟩
    | known =>
      obtain ⟨l, rfl, hf⟩ := onTup_elim hf
      obtain ⟨p, m, rfl, e, hk⟩ := hf
      obtain ⟨rfl, hon⟩ : x = .ref (c.ad .known) ∧ On c.ad := ra
      obtain ⟨xs, d, r, z⟩ := (g.g.real hon).known
      obtain ⟨b', ys, rfl, r1, r2⟩ := id rb
      obtain ⟨a', t, e'⟩ := (r.at p).2 m e
      refine ⟨"dict", _, d.typeIs, slot_dict_getitem.lookup, wpAny_getItem_heap (knd := tupleKind (intKind c.prog c.w)) (tupleKind_room_in1 ?_) rb.key d e' ?_⟩
      · show A.units + 1 < 9900
        have := rm.u; lia
      · exact fin1 _ _ _ (rep_int m t) hk
    | feed =>
      obtain ⟨x', rfl, hf⟩ := onStr_elim hf
      obtain ⟨rfl, hon⟩ : x = .ref (c.ad .feed) ∧ On c.ad := ra
      obtain ⟨t, rfl⟩ : ∃ t, y = .str x' t := rb
      obtain ⟨ca, xs, t', f, p, r, z, d⟩ := (g.g.real hon).feed
      rcases (or_ife hf).imp_right if_elim with ⟨rfl, hk⟩ | ⟨rfl, hk⟩
      · exact ⟨"dict", _, d.typeIs, slot_dict_getitem.lookup, wpAny_getItem_of (k := Str.ofString "cells") (v := .ref ca) (strIs _ _) d.mapOf (by kernel_rfl) (fin1 _ _ _ (rep_lst f p r (by simpa using z)) hk)⟩
      · exact ⟨"dict", _, d.typeIs, slot_dict_getitem.lookup, wpAny_getItem_of (k := Str.ofString "at") (v := .int st.g.at_ t') (strIs _ _) d.mapOf (by kernel_rfl) (fin1 _ _ _ (rep_int _ _) hk)⟩
    | world =>
      obtain ⟨x', rfl, hf⟩ := onStr_elim hf
      obtain ⟨rfl, hon⟩ : x = .ref (c.ad .world) ∧ On c.ad := ra
      obtain ⟨t, rfl⟩ : ∃ t, y = .str x' t := rb
      have hf := (or_ife hf).imp_right fun h => (or_ife h).imp_right fun h => (or_ife h).imp_right if_elim
      rcases (g.g.real hon).world with ⟨hr, d⟩ | ⟨hr, ca, xs, f, p, r, z, d⟩
      · rcases hf with ⟨rfl, hk⟩ | ⟨rfl, hk⟩ | ⟨rfl, hk⟩ | ⟨rfl, hr', hk⟩
        · exact ⟨"dict", _, d.typeIs, slot_dict_getitem.lookup, wpAny_getItem_of (k := Str.ofString "circuit") (v := .ref (c.ad .circ)) (strIs _ _) d.mapOf (by kernel_rfl) (fin1 _ _ _ (rep_obj hon _) hk)⟩
        · exact ⟨"dict", _, d.typeIs, slot_dict_getitem.lookup, wpAny_getItem_of (k := Str.ofString "binary") (v := .ref (c.ad .bin)) (strIs _ _) d.mapOf (by kernel_rfl) (fin1 _ _ _ (rep_obj hon _) hk)⟩
        · exact ⟨"dict", _, d.typeIs, slot_dict_getitem.lookup, wpAny_getItem_of (k := Str.ofString "numbers") (v := .ref (c.ad .numbers)) (strIs _ _) d.mapOf (by kernel_rfl) (fin1 _ _ _ (rep_obj hon _) hk)⟩
        · rw [hr] at hr'; cases hr'
      · rcases hf with ⟨rfl, hk⟩ | ⟨rfl, hk⟩ | ⟨rfl, hk⟩ | ⟨rfl, _, hk⟩
        · exact ⟨"dict", _, d.typeIs, slot_dict_getitem.lookup, wpAny_getItem_of (k := Str.ofString "circuit") (v := .ref (c.ad .circ)) (strIs _ _) d.mapOf (by kernel_rfl) (fin1 _ _ _ (rep_obj hon _) hk)⟩
        · exact ⟨"dict", _, d.typeIs, slot_dict_getitem.lookup, wpAny_getItem_of (k := Str.ofString "binary") (v := .ref (c.ad .bin)) (strIs _ _) d.mapOf (by kernel_rfl) (fin1 _ _ _ (rep_obj hon _) hk)⟩
        · exact ⟨"dict", _, d.typeIs, slot_dict_getitem.lookup, wpAny_getItem_of (k := Str.ofString "numbers") (v := .ref (c.ad .numbers)) (strIs _ _) d.mapOf (by kernel_rfl) (fin1 _ _ _ (rep_obj hon _) hk)⟩
        · exact ⟨"dict", _, d.typeIs, slot_dict_getitem.lookup, wpAny_getItem_of (k := Str.ofString "inputs") (v := .ref ca) (strIs _ _) d.mapOf (by kernel_rfl) (fin1 _ _ _ (rep_lst f p r (by simpa using z)) hk)⟩
    | _ => exact False.elim hf
  | _ => exact False.elim hf

theorem e_sub {value slice : Expr} {pos : Pos} {Tl Tr : St → (V → St → Prop) → Prop} (hl : SemE c n sc value Tl) (hr : SemE c n sc slice Tr) (hs : ∀ o i, subscripted slice false o i = operate [o, i] (getItem o i)) :
    SemE c n sc (.Subscript value slice pos) (T2 Tl Tr onSub) := by
  intro A X F s st P Q rm ok g ht hq
  refine Subscript_ (hl A X F s st _ _ rm ok g ht fun F1 h1 tk1 x a st1 g1 L1 r1 p1 => ?_)
  refine hr A X F1 _ st1 _ _ rm ok g1 p1 fun F2 h2 tk2 y b st2 g2 L2 r2 p2 => ?_
  obtain ⟨T, id, hT, hl, hg⟩ := getItem_sub (n := n) sc A X F2 { s with heap := h2, toks := tk2 } st2 _ Q a b x y rm ok g2 (r1.later L2) r2 p2 fun F3 h3 tk3 v r g3 L3 r3 p3 => hq F3 h3 tk3 v r st2 g3 ((L1.trans L2).trans L3) r3 p3
  exact tail_any hT hl hg (hs x y)
end
end Mine

namespace Mine

section
variable {c : Cx} {n : Nat} {sc : List (Str × NameKind)}

noncomputable def cEq (a b : V) (st : St) (k : V → Prop) : Prop := match a with
  | .int i => onInt b fun j => k (.bool (decide (i = j)))
  | .bool i => onBool b fun j => k (.bool (decide (i = j)))
  | .str i => onStr b fun j => k (.bool (decide (i = j)))
  | .lst l => onLst b fun m => (∃ ns ms : List Int, l = ns.map .int ∧ m = ms.map .int ∧ k (.bool (decide (ns = ms)))) ∨ (∃ bs cs : List Bool, l = bs.map .bool ∧ m = cs.map .bool ∧ k (.bool (decide (bs = cs))))
  | _ => False
noncomputable def cNe (a b : V) (st : St) (k : V → Prop) : Prop := match a with
  | .int i => onInt b fun j => k (.bool (!decide (i = j)))
  | .bool i => onBool b fun j => k (.bool (!decide (i = j)))
  | .lst l => onLst b fun m => ∃ ns ms : List Int, l = ns.map .int ∧ m = ms.map .int ∧ k (.bool (!decide (ns = ms)))
  | _ => False
noncomputable def cNotIn (a b : V) (st : St) (k : V → Prop) : Prop := match a, b with
  | .int i, .tup l => ∃ ns : List Int, l = ns.map .int ∧ k (.bool (!decide (i ∈ ns)))
  | .tup l, .obj .known => ∃ ns : List Int, l = ns.map .int ∧ k (.bool (!(st.g.known.lookup ns).isSome))
  | _, _ => False

theorem beq_dec {α : Type} [DecidableEq α] (a b : α) : (a == b) = decide (a = b) := by by_cases h : a = b <;> simp [h]
theorem beq_dec' {α : Type} [BEq α] [LawfulBEq α] [DecidableEq α] (a b : α) : (a == b) = decide (a = b) := by by_cases h : a = b <;> simp [h]
theorem eqAt_bool (A : Around) (s : Shared) (b d : Bool) : SeqAt.EqAt A s (.bool b) (.bool d) (b == d) := by
  intro prog w E Q hq
  unfold eqBool
  refine wpAny_holding ?_
  show wpAny _ _ (if (Value.bool b == Value.bool d) = true then _ else _) Q E s
  by_cases h : b = d
  · subst h
    rw [if_pos (by simp)]
    exact wpAny_pure (M := model prog w) (E := E) (a := true) (by simpa using hq)
  · rw [if_neg (by simpa using h)]
    refine wpAny_bind (PyProof.Rows.eq_bool ?_)
    exact wpAny_truthy_bool hq

theorem bools_of {ad : Ob → Addr} {F : Addr → Prop} {h : Heap} : ∀ {bs : List Bool} {xs : List Value}, RepL ad F h (bs.map V.bool) xs → xs = bs.map Value.bool
  | [], _, e => e
  | b :: bs, _, ⟨x, r, rfl, q, t⟩ => by rw [bools_of t]; rw [show x = .bool b from q]; rfl

theorem c_eq : Pure2 c n (compareOp .Eq) cEq := by
  intro sc A X F s st k Q a b x y rm ok g ra rb hf hq
  have fin : ∀ t : Bool, k (.bool t) → Q (.bool t) s := fun t h => hq F s.heap s.toks _ _ g (.refl _ _) (rep_bool _) h
  have hu : A.units + 64 < cLine := by have := rm.u; show A.units + 64 < 9900; lia
  cases a with
  | int i =>
    obtain ⟨j, rfl, hf⟩ := onInt_elim hf
    obtain ⟨t, rfl⟩ : ∃ t, x = .int i t := ra
    obtain ⟨u, rfl⟩ : ∃ t, y = .int j t := rb
    refine PyProof.Rows.eq_int (fin _ ?_)
    rw [beq_dec']; exact hf
  | bool i =>
    obtain ⟨j, rfl, hf⟩ := onBool_elim hf
    obtain rfl : x = .bool i := ra
    obtain rfl : y = .bool j := rb
    refine PyProof.Rows.eq_bool (fin _ ?_)
    rw [beq_dec']; exact hf
  | str i =>
    obtain ⟨j, rfl, hf⟩ := onStr_elim hf
    obtain ⟨t, rfl⟩ : ∃ t, x = .str i t := ra
    obtain ⟨u, rfl⟩ : ∃ t, y = .str j t := rb
    refine PyProof.Rows.eq_str (fin _ ?_)
    rw [beq_dec']; exact hf
  | lst l =>
    obtain ⟨m, rfl, hf⟩ := onLst_elim hf
    obtain ⟨a1, xs, rfl, f1, p1, r1, z1⟩ := ra
    obtain ⟨a2, ys, rfl, f2, p2, r2, z2⟩ := rb
    rcases hf with ⟨ns, ms, rfl, rfl, hk⟩ | ⟨bs, cs, rfl, rfl, hk⟩
    · exact ke_eq_ints p1.isList p2.isList (RepL.ints r1) (RepL.ints r2) hu (fin _ hk)
    · obtain rfl := bools_of r1
      obtain rfl := bools_of r2
      have hl : A.units < cLine := by lia
      by_cases hz : bs.length = cs.length
      · refine SeqAt.eq_listAt (e := fun j => (bs[j]? == cs[j]?)) p1.isList p2.isList (by simpa using hz) hl (fun j h1 h2 => ?_) (fin _ ?_)
        · have b1 : j < bs.length := by simpa using h1
          have b2 : j < cs.length := by simpa using h2
          have := eqAt_bool A.in1 s bs[j] cs[j]
          simpa [b1, b2] using this
        · have : ((List.range (bs.map Value.bool).toArray.size).all fun j => bs[j]? == cs[j]?) = decide (bs = cs) := by
            rw [Bool.eq_iff_iff]
            simp only [List.all_eq_true, List.mem_range, List.size_toArray, List.length_map, beq_iff_eq, decide_eq_true_eq]
            constructor
            · intro h
              refine List.ext_getElem? fun j => ?_
              by_cases hj : j < bs.length
              · exact h j hj
              · rw [List.getElem?_eq_none (by lia), List.getElem?_eq_none (by lia)]
            · rintro rfl _ _; rfl
          rw [this]; exact hk
      · refine SeqAt.eq_list_lengthsAt p1.isList p2.isList (by simpa using hz) hl (fin _ ?_)
        have : decide (bs = cs) = false := by simp only [decide_eq_false_iff_not]; rintro rfl; exact hz rfl
        rw [← this]; exact hk
  | _ => exact False.elim hf

theorem c_ne : Pure2 c n (compareOp .NotEq) cNe := by
  intro sc A X F s st k Q a b x y rm ok g ra rb hf hq
  have fin : ∀ t : Bool, k (.bool t) → Q (.bool t) s := fun t h => hq F s.heap s.toks _ _ g (.refl _ _) (rep_bool _) h
  have hu : A.units + 64 < cLine := by have := rm.u; show A.units + 64 < 9900; lia
  cases a with
  | int i =>
    obtain ⟨j, rfl, hf⟩ := onInt_elim hf
    obtain ⟨t, rfl⟩ : ∃ t, x = .int i t := ra
    obtain ⟨u, rfl⟩ : ∃ t, y = .int j t := rb
    refine PyProof.Rows.ne_int (fin _ ?_)
    rw [bne, beq_dec']; exact hf
  | bool i =>
    obtain ⟨j, rfl, hf⟩ := onBool_elim hf
    obtain rfl : x = .bool i := ra
    obtain rfl : y = .bool j := rb
    refine PyProof.Rows.ne_bool (fin _ ?_)
    rw [bne, beq_dec']; exact hf
  | lst l =>
    obtain ⟨m, rfl, hf⟩ := onLst_elim hf
    obtain ⟨a1, xs, rfl, f1, p1, r1, z1⟩ := ra
    obtain ⟨a2, ys, rfl, f2, p2, r2, z2⟩ := rb
    obtain ⟨ns, ms, rfl, rfl, hk⟩ := hf
    exact ke_ne_ints p1.isList p2.isList (RepL.ints r1) (RepL.ints r2) hu (fin _ hk)
  | _ => exact False.elim hf

theorem any_isInt (i : Int) : ∀ {xs : List Value} {ns : List Int}, IntsAre xs ns → xs.any (isInt i) = decide (i ∈ ns)
  | _, _, .nil => by simp
  | _, _, .cons m t r => by
    simp only [List.any_cons, any_isInt i r, List.mem_cons, isInt]
    by_cases h : m = i
    · subst h; simp
    · have h' : ¬ i = m := fun e => h e.symm
      simp [h, h']

theorem c_notIn : Pure2 c n (compareOp .NotIn) cNotIn := by
  intro sc A X F s st k Q a b x y rm ok g ra rb hf hq
  have fin1 : ∀ (t : Bool) tk, k (.bool t) → Q (.bool t) { s with toks := tk } := fun t tk h => hq F s.heap tk _ _ g (.refl _ _) (rep_bool _) h
  unfold cNotIn at hf
  split at hf
  · rename_i i l
    obtain ⟨ns, rfl, hk⟩ := hf
    obtain ⟨t, rfl⟩ : ∃ t, x = .int i t := ra
    obtain ⟨a2, ys, rfl, f2, p2, r2, z2⟩ := rb
    have hi := RepL.ints r2
    refine SeqAt.notIn_tupleAt (isInt i) p2.isTuple (fun y hy => (eq_isInt i t hi y (by simpa using hy)).at A.in1 s) ?_
    have : (ys.toArray.any (isInt i)) = decide (i ∈ ns) := by rw [List.any_toArray]; exact any_isInt i hi
    rw [this]
    exact fin1 _ s.toks hk
  · obtain ⟨ns, rfl, hk⟩ := hf
    obtain ⟨rfl, hon⟩ : y = .ref (c.ad .known) ∧ On c.ad := rb
    obtain ⟨xs, d, r, z⟩ := (g.g.real hon).known
    obtain ⟨b', ys, rfl, r1, r2⟩ := id ra
    refine wpAny_notIn_heap (knd := tupleKind (intKind c.prog c.w)) (tupleKind_room_in1 ?_) ra.key (g.g.real hon).nsys d (fin1 _ _ ?_)
    · show A.units + 1 < 9900
      have := rm.u; lia
    · obtain ⟨q1, q2⟩ := r.at ns
      cases e : st.g.known.lookup ns with
      | none => rw [q1 e]; rw [e] at hk; exact hk
      | some m => obtain ⟨a', t, e'⟩ := q2 m e; rw [e']; rw [e] at hk; exact hk
  · exact hf.elim

-- tests
theorem t_of {e : Expr} {T : St → (V → St → Prop) → Prop} (he : SemE c n sc e T) (hp : ∀ env whole, isTrue e env whole = (do let v ← whole; standAt e.pos; holding [v] (truthy v))) :
    SemT c n sc e (fun st P => T st fun v st1 => onBool v fun b => P b st1) := by
  intro A X F s st P Q rm ok g ht hq
  refine isTrue_plain (he A X F s st _ _ rm ok g ht fun F1 h1 tk1 x a st1 g1 L1 r1 p1 => ?_) (hp _ _)
  obtain ⟨b, rfl, p1⟩ := onBool_elim p1
  obtain rfl : x = .bool b := r1
  exact wpAny_truthy_bool (hq F1 h1 tk1 _ _ st1 g1 L1 rfl p1)
theorem t_not {x : Expr} {pos : Pos} {T : St → (Bool → St → Prop) → Prop} (hx : SemT c n sc x T) : SemT c n sc (.UnaryOp .Not x pos) (fun st P => T st fun b st1 => P (!b) st1) := by
  intro A X F s st P Q rm ok g ht hq
  refine isTrue_not (hx A X F s st _ _ rm ok g ht fun F1 h1 tk1 x a st1 g1 L1 r1 p1 => ?_)
  subst r1
  exact hq F1 h1 tk1 _ _ st1 g1 L1 rfl p1
theorem t_and {x y : Expr} {pos : Pos} {T U : St → (Bool → St → Prop) → Prop} (hx : SemT c n sc x T) (hy : SemT c n sc y U) :
    SemT c n sc (.BoolOp .And [x, y] pos) (fun st P => T st fun b st1 => match b with | true => U st1 P | false => P false st1) := by
  intro A X F s st P Q rm ok g ht hq
  refine isTrue_and (hx A X F s st _ _ rm ok g ht fun F1 h1 tk1 x a st1 g1 L1 r1 p1 => ?_)
  subst r1
  cases x with
  | false => exact hq F1 h1 tk1 _ _ st1 g1 L1 rfl p1
  | true =>
    refine isTrue_and (hy A X F1 _ st1 _ _ rm ok g1 p1 fun F2 h2 tk2 x a st2 g2 L2 r2 p2 => ?_)
    subst r2
    cases x with
    | false => exact hq F2 h2 tk2 _ _ st2 g2 (L1.trans L2) rfl p2
    | true => exact isTrue_and_nil (hq F2 h2 tk2 _ _ st2 g2 (L1.trans L2) rfl p2)
theorem t_or {x y : Expr} {pos : Pos} {T U : St → (Bool → St → Prop) → Prop} (hx : SemT c n sc x T) (hy : SemT c n sc y U) :
    SemT c n sc (.BoolOp .Or [x, y] pos) (fun st P => T st fun b st1 => match b with | true => P true st1 | false => U st1 P) := by
  intro A X F s st P Q rm ok g ht hq
  refine isTrue_or (hx A X F s st _ _ rm ok g ht fun F1 h1 tk1 x a st1 g1 L1 r1 p1 => ?_)
  subst r1
  cases x with
  | true => exact hq F1 h1 tk1 _ _ st1 g1 L1 rfl p1
  | false =>
    refine isTrue_or (hy A X F1 _ st1 _ _ rm ok g1 p1 fun F2 h2 tk2 x a st2 g2 L2 r2 p2 => ?_)
    subst r2
    cases x with
    | true => exact hq F2 h2 tk2 _ _ st2 g2 (L1.trans L2) rfl p2
    | false => exact isTrue_or_nil (hq F2 h2 tk2 _ _ st2 g2 (L1.trans L2) rfl p2)

-- «a or b» as a value, of bools
theorem e_or {x y : Expr} {pos : Pos} {T U : St → (V → St → Prop) → Prop} (hx : SemE c n sc x T) (hy : SemE c n sc y U) :
    SemE c n sc (.BoolOp .Or [x, y] pos) (fun st P => T st fun v st1 => onBool v fun b => match b with | true => P (.bool true) st1 | false => U st1 P) := by
  intro A X F s st P Q rm ok g ht hq
  refine BoolOp_or (hx A X F s st _ _ rm ok g ht fun F1 h1 tk1 x a st1 g1 L1 r1 p1 => ?_)
  obtain ⟨b, rfl, p1⟩ := onBool_elim p1
  obtain rfl : x = .bool b := r1
  refine wpAny_truthy_bool ?_
  cases b with
  | true => exact hq F1 h1 tk1 _ _ st1 g1 L1 (rep_bool _) p1
  | false => exact BoolOp_one (hy A X F1 _ st1 _ _ rm ok g1 p1 fun F2 h2 tk2 y b st2 g2 L2 r2 p2 => hq F2 h2 tk2 y b st2 g2 (L1.trans L2) r2 p2)

theorem e_if {x a b : Expr} {pos : Pos} {T : St → (Bool → St → Prop) → Prop} {U W : St → (V → St → Prop) → Prop} (hx : SemT c n sc x T) (ha : SemE c n sc a U) (hb : SemE c n sc b W) :
    SemE c n sc (.IfExp x a b pos) (fun st P => T st fun t st1 => match t with | true => U st1 P | false => W st1 P) := by
  intro A X F s st P Q rm ok g ht hq
  refine IfExp_ (hx A X F s st _ _ rm ok g ht fun F1 h1 tk1 x t st1 g1 L1 r1 p1 => ?_)
  subst r1
  cases x with
  | true => exact ha A X F1 _ st1 _ _ rm ok g1 p1 fun F2 h2 tk2 y b st2 g2 L2 r2 p2 => hq F2 h2 tk2 y b st2 g2 (L1.trans L2) r2 p2
  | false => exact hb A X F1 _ st1 _ _ rm ok g1 p1 fun F2 h2 tk2 y b st2 g2 L2 r2 p2 => hq F2 h2 tk2 y b st2 g2 (L1.trans L2) r2 p2

-- arguments, displays
theorem a_nil {pos : Pos} : SemA c n sc pos [] (fun st P => P [] st) :=
  fun A X F s st P Q rm ok g ht hq => spliced_nil (hq F s.heap s.toks _ [] st g (.refl _ _) rfl ht)
theorem spliced_back {M : Model} {A : Around} {E : Value → Shared → Prop} {s : Shared} {pos : Pos} {x : Sem Value} {rest : List (Bool × Sem Value)} {Q : List Value → Shared → Prop} (h : wpAny M A x (fun v s₁ => wpAny M A (spliced (backTo pos rest)) (fun vs s₂ => Q (v :: vs) s₂) E s₁) E s) :
    wpAny M A (spliced (backTo pos ((false, x) :: rest))) Q E s := spliced_cons h
theorem a_cons {pos : Pos} {e : Expr} {es : List Expr} {T : St → (V → St → Prop) → Prop} {U : St → (List V → St → Prop) → Prop} (he : SemE c n sc e T) (hes : SemA c n sc pos es U)
    (hp : ∀ env, starEach (e :: es) env = (false, eval e env) :: starEach es env) :
    SemA c n sc pos (e :: es) (fun st P => T st fun v st1 => U st1 fun vs st2 => P (v :: vs) st2) := by
  intro A X F s st P Q rm ok g ht hq
  dsimp only
  rw [hp]
  refine spliced_back (he A X F s st _ _ rm ok g ht fun F1 h1 tk1 x a st1 g1 L1 r1 p1 => ?_)
  exact hes A X F1 _ st1 _ _ rm ok g1 p1 fun F2 h2 tk2 xs as st2 g2 L2 r2 p2 => hq F2 h2 tk2 _ (a :: as) st2 g2 (L1.trans L2) ⟨x, xs, rfl, r1.later L2, r2⟩ p2
theorem e_tup {es : List Expr} {k : Nat} {pos : Pos} {U : St → (List V → St → Prop) → Prop} (hes : SemA c n sc pos es U) :
    SemE c n sc (.Tuple es k pos) (fun st P => U st fun vs st1 => vs.length ≤ sizeLine ∧ P (.tup vs) st1) := by
  intro A X F s st P Q rm ok g ht hq
  refine Tuple_ (hes A X F s st _ _ rm ok g ht fun F1 h1 tk1 xs as st1 g1 L1 r1 p1 => ?_)
  exact new_tup g1 ok r1 p1.1 p1.2 fun F2 h2 tk2 y b st2 g2 L2 r2 p2 => hq F2 h2 tk2 y b st2 g2 (L1.trans L2) r2 p2
theorem e_lst {es : List Expr} {pos : Pos} {U : St → (List V → St → Prop) → Prop} (hes : SemA c n sc pos es U) :
    SemE c n sc (.List es pos) (fun st P => U st fun vs st1 => vs.length ≤ sizeLine ∧ P (.lst vs) st1) := by
  intro A X F s st P Q rm ok g ht hq
  refine List_ (hes A X F s st _ _ rm ok g ht fun F1 h1 tk1 xs as st1 g1 L1 r1 p1 => ?_)
  exact new_lst g1 ok r1 p1.1 p1.2 fun F2 h2 tk2 y b st2 g2 L2 r2 p2 => hq F2 h2 tk2 y b st2 g2 (L1.trans L2) r2 p2
end
end Mine

namespace Mine

/-- what a call does, said without any frame: its result and the counted state behind it -/
noncomputable def CallS (c : Cx) (n : Nat) (f : Value) (S : List V → G → (V → G → Prop) → Prop) : Prop :=
  ∀ (A : Around) (F : Addr → Prop) (s : Shared) (g : G) (args : List V) (xs : List Value) (P : V → G → Prop) (Q : Value → Shared → Prop),
    Room A n → Stat c F s.heap → GRep c F s.heap g → (∀ a, F a → ∃ o, s.heap.get? a = some o) → RepL c.ad F s.heap args xs → S args g P →
    (∀ F' h' tk v r g', Stat c F' h' → GRep c F' h' g' → (∀ a, F' a → ∃ o, h'.get? a = some o) → Later F s.heap F' h' → (∀ a, F' a → F a ∨ s.heap.get? a = none) →
      (∀ a o, s.heap.get? a = some o → ¬ GM c a → h'.get? a = some o) → Rep c.ad F' h' r v → P r g' → Q v { s with heap := h', toks := tk }) →
    wpAny (model c.prog c.w) A (call f xs) Q (fun _ _ => False) s

theorem Room.le {A : Around} {m n : Nat} (r : Room A n) (h : m ≤ n) : Room A m := ⟨r.h, by have := r.d; lia, by have := r.u; lia⟩

section
variable {c : Cx} {n : Nat} {sc : List (Str × NameKind)}

/-- a callee's name -/
noncomputable def Callee (c : Cx) (sc : List (Str × NameKind)) (fe : Expr) (f : Value) : Prop :=
  (∀ (A : Around) (X : Act) (F : Addr → Prop) (s : Shared) (st : St) (Q : Value → Shared → Prop) (E : Value → Shared → Prop), ActOk c sc X → Good c X F s.heap st → Q f s → wpAny (model c.prog c.w) A (eval fe X.env) Q E s) ∧
  ∀ F h, Stat c F h → ∃ k, (k = Keeper.frame ∨ k = Keeper.machine ∨ k = Keeper.boundFrame) ∧ Looks (model c.prog c.w) h (keeperOf f) k

theorem callee_def {x : Str} {pos : Pos} {f : Addr} (hs : sc.lookup x = some .globalImplicit) (hk : nsIn c.K mainGlobals x = some (some (.ref f))) (hf : keepIn c.K (.ref f) = true) (hd : (x == ("__debug__" : Str)) = false) : Callee c sc (.Name x pos) (.ref f) := by
  refine ⟨fun A X F s st Q E ok g hq => ?_, fun F h S => ?_⟩
  · obtain ⟨_, mg, hm⟩ := g.stat.mg
    exact Name_function_global ok.kind (ok.gl x hs) (loadGlobal_global (by rw [ok.glob]; exact hm) (mg_of g.stat.In hm hk) hq) hd
  · obtain ⟨k, a, b⟩ := looks_keep (M := model c.prog c.w) hf S.In
    exact ⟨k, a.elim .inl (fun e => .inr (.inl e)), b⟩
theorem callee_boot {x : Str} {pos : Pos} {f : Value} (hs : sc.lookup x = some .globalImplicit) (hk : nsIn c.K mainGlobals x = some none) (hb : bootBuiltins x = some f) (hn : x ≠ "__name__") (hd : (x == ("__debug__" : Str)) = false)
    (hf : keeperOf f = pure .machine) : Callee c sc (.Name x pos) f := by
  refine ⟨fun A X F s st Q E ok g hq => ?_, fun F h S => ⟨.machine, .inr (.inl rfl), Looks.of_pure hf⟩⟩
  obtain ⟨_, mg, hm⟩ := g.stat.mg
  obtain ⟨_, mb, hmb, hbv⟩ := g.stat.b
  exact Name_function_global ok.kind (ok.gl x hs) (loadGlobal_builtin (by rw [ok.glob]; exact hm) (mg_none_of g.stat.In hm hk) (by rw [ok.blt]; exact hmb) ((hbv x hn).trans hb) hq) hd

theorem after_call {X : Act} {F F' : Addr → Prop} {h h' : Heap} {st : St} {g' : G} (R : Good c X F h st) (ok : ActOk c sc X) (hg : GRep c F' h' g') (fz : ∀ a, F' a → ∃ o, h'.get? a = some o) (L : Later F h F' h')
    (fnew : ∀ a, F' a → F a ∨ h.get? a = none) (k : ∀ a o, h.get? a = some o → ¬ GM c a → h'.get? a = some o) : Good c X F' h' { st with g := g' } := R.move L hg fz fnew k ok

theorem evalArgs_any {M : Model} {A : Around} {E : Value → Shared → Prop} {s : Shared} {f : Value} {args : List (Bool × Sem Value)} {Q : Args → Shared → Prop} (hplain : args.any (·.1) = false)
    (h : wpAny M A (spliced args) (fun vs s' => Q ⟨vs, []⟩ s') E s) : wpAny M A (evalArgs f true args []) Q E s := by
  cases args with
  | nil => 
    unfold evalArgs
    show wpAny M A (spliced [] >>= _) Q E s
    refine wpAny_bind (wpAny_mono h (fun vs s' h' => ?_) fun _ _ x => x)
    refine wpAny_bind (wpAny_pure ?_)
    refine wpAny_holding ?_
    exact wpAny_bind (wpAny_pure (wpAny_bind (wpAny_pure (wpAny_pure h'))))
  | cons a r =>
    obtain ⟨b, x⟩ := a
    cases b with
    | true => simp at hplain
    | false => exact Calls.evalArgs_plain h

theorem e_call {fe : Expr} {f : Value} {args : List Expr} {pos : Pos} {m : Nat} {S : List V → G → (V → G → Prop) → Prop} {T : St → (List V → St → Prop) → Prop} (hfe : Callee c sc fe f) (hC : CallS c m f S) (hm : m ≤ n)
    (ha : SemA c n sc pos args T) (he : ∀ env, eval (.Call fe args [] pos) env = (do callWith pos (← eval fe env) [] (backTo pos (starEach args env)) (backToKw pos (keywordEach [] env))))
    (hplain : ∀ env, (backTo pos (starEach args env)).any (·.1) = false) :
    SemE c n sc (.Call fe args [] pos) (fun st P => T st fun vs st1 => S vs st1.g fun r g' => P r { st1 with g := g' }) := by
  intro A X F s st P Q rm ok g ht hq
  refine Call_ (hfe.1 A X F s st _ _ ok g ?_) (he _)
  refine callWith_of (P := fun h => ∃ F, Stat c F h) (by rw [hplain]; rfl) (fun h ⟨F, S⟩ => hfe.2 F h S) (evalArgs_any (hplain _) ?_)
  refine ha A X F s st _ _ rm ok g ht fun F1 h1 tk1 xs as st1 g1 L1 r1 p1 => ?_
  refine ⟨⟨F1, g1.stat⟩, hC A F1 _ st1.g as xs _ _ (rm.le hm) g1.stat g1.g g1.froz r1 p1 fun F2 h2 tk2 v r g' S2 G2 Z2 L2 N2 K2 r2 p2 => ?_⟩
  exact hq F2 h2 tk2 v r _ (after_call g1 ok G2 Z2 L2 N2 K2) (L1.trans L2) r2 p2

-- attributes
noncomputable def onAttr (v : V) (a : Str) (k : V → Prop) : Prop := match v with
  | .obj .circ => if a = Str.ofString "kinds" then k (.obj .kinds) else if a = Str.ofString "parts_now" then k (.obj .parts) else if a = Str.ofString "known" then k (.obj .known) else False
  | .obj .bin => if a = Str.ofString "circuit" then k (.obj .circ) else False
  | _ => False

theorem inst_circ {F : Addr → Prop} {h : Heap} {g : G} (R : GRep c F h g) (hon : On c.ad) : ∃ ox od, InstAt h (c.ad .circ) ox 245 (some od) ∧ ∀ y, lookIn y od = some (circF c.ad y) := by
  obtain ⟨dx, od, f1, f2, e1, e2, q⟩ := (R.real hon).circ
  exact ⟨_, od, ⟨e1, rfl, rfl, e2⟩, q⟩
theorem inst_bin {F : Addr → Prop} {h : Heap} {g : G} (R : GRep c F h g) (hon : On c.ad) : ∃ ox od, InstAt h (c.ad .bin) ox 133 (some od) ∧ ∀ y, lookIn y od = some (binF c.ad y) := by
  obtain ⟨dx, od, f1, f2, e1, e2, q⟩ := (R.real hon).bin
  exact ⟨_, od, ⟨e1, rfl, rfl, e2⟩, q⟩

theorem kd_circ (w : World) : hasDictIn (hd.heap_39 w.params) 245 = true := by kernel_rfl
theorem kd_bin (w : World) : hasDictIn (hd.heap_39 w.params) 133 = true := by kernel_rfl
theorem ka_circ (w : World) : findIn (hd.heap_39 w.params) (.ref 245) "__getattribute__" = some (some (.builtin "object.__getattribute__")) ∧ findIn (hd.heap_39 w.params) (.ref 245) "__getattr__" = some none := ⟨by kernel_rfl, by kernel_rfl⟩
theorem ka_bin (w : World) : findIn (hd.heap_39 w.params) (.ref 133) "__getattribute__" = some (some (.builtin "object.__getattribute__")) ∧ findIn (hd.heap_39 w.params) (.ref 133) "__getattr__" = some none := ⟨by kernel_rfl, by kernel_rfl⟩
theorem kn_kinds (w : World) : findIn (hd.heap_39 w.params) (.ref 245) (Str.ofString "kinds") = some none := by kernel_rfl
theorem kn_parts (w : World) : findIn (hd.heap_39 w.params) (.ref 245) (Str.ofString "parts_now") = some none := by kernel_rfl
theorem kn_known (w : World) : findIn (hd.heap_39 w.params) (.ref 245) (Str.ofString "known") = some none := by kernel_rfl
theorem kn_circuit (w : World) : findIn (hd.heap_39 w.params) (.ref 133) (Str.ofString "circuit") = some none := by kernel_rfl

theorem e_attr {o : Expr} {a : Str} {pos : Pos} {T : St → (V → St → Prop) → Prop} (ho : SemE c n sc o T)
    (he : ∀ env, eval (.Attribute o a pos) env = (do
      let v ← eval o env
      standAt pos.atName
      let r ← holding [v] (getAttr v a true)
      letTemporaryGo o v r
      pure r)) : SemE c n sc (.Attribute o a pos) (fun st P => T st fun v st1 => onAttr v a fun r => P r st1) := by
  intro A X F s st P Q rm ok g ht hq
  refine Attribute_any_ (ho A X F s st _ _ rm ok g ht fun F1 h1 tk1 x v st1 g1 L1 r1 p1 => ?_) (he _)
  unfold onAttr at p1
  split at p1
  · obtain ⟨rfl, hon⟩ : x = .ref (c.ad .circ) ∧ On c.ad := r1
    obtain ⟨ox, od, I, ho⟩ := inst_circ g1.g hon
    rcases (or_ife p1).imp_right fun h => (or_ife h).imp_right if_elim with ⟨rfl, p1⟩ | ⟨rfl, p1⟩ | ⟨rfl, p1⟩
    · exact get_value g1.stat.In I (ka_circ c.w).1 (findObj_own (attr := none) (kd_circ c.w) (kn_kinds c.w) rfl (ho _)) rfl (hq F1 h1 _ _ _ st1 g1 L1 (rep_obj hon _) p1)
    · exact get_value g1.stat.In I (ka_circ c.w).1 (findObj_own (attr := none) (kd_circ c.w) (kn_parts c.w) rfl (ho _)) rfl (hq F1 h1 _ _ _ st1 g1 L1 (rep_obj hon _) p1)
    · exact get_value g1.stat.In I (ka_circ c.w).1 (findObj_own (attr := none) (kd_circ c.w) (kn_known c.w) rfl (ho _)) rfl (hq F1 h1 _ _ _ st1 g1 L1 (rep_obj hon _) p1)
  · obtain ⟨rfl, hon⟩ : x = .ref (c.ad .bin) ∧ On c.ad := r1
    obtain ⟨ox, od, I, ho⟩ := inst_bin g1.g hon
    obtain ⟨rfl, p1⟩ := if_elim p1
    exact get_value g1.stat.In I (ka_bin c.w).1 (findObj_own (attr := none) (kd_bin c.w) (kn_circuit c.w) rfl (ho _)) rfl (hq F1 h1 _ _ _ st1 g1 L1 (rep_obj hon _) p1)
  · exact p1.elim

-- methods of the two objects
noncomputable def isOb : Ob → V → Prop
  | .circ, .obj .circ => True
  | .bin, .obj .bin => True
  | _, _ => False
noncomputable def onOb : Ob → V → Prop → Prop
  | .circ, .obj .circ, p => p
  | .bin, .obj .bin, p => p
  | _, _, _ => False
theorem onOb_elim {k : Ob} {v : V} {p : Prop} (h : onOb k v p) : isOb k v ∧ p := by
  unfold onOb at h
  split at h
  · exact ⟨trivial, h⟩
  · exact ⟨trivial, h⟩
  · exact h.elim
noncomputable def clsAt : Ob → Addr
  | .circ => 245
  | _ => 133
noncomputable def ownF (ad : Ob → Addr) : Ob → Str → Option Value
  | .circ => circF ad
  | _ => binF ad

theorem e_meth {o : Expr} {a : Str} {apos pos : Pos} {args : List Expr} {k : Ob} {f : Addr} {m : Nat} {pl : Env → Sem Bool} {S : List V → G → (V → G → Prop) → Prop} {To : St → (V → St → Prop) → Prop} {T : St → (List V → St → Prop) → Prop}
    (ho : SemE c n sc o To) (hC : CallS c m (.ref f) S) (hm : m ≤ n) (ha : SemA c n sc pos args T)
    (hf : findIn c.K (.ref (clsAt k)) a = some (some (.ref f))) (hfn : typeIn c.K (.ref f) = some (.type "function")) (hkp : keepIn c.K (.ref f) = true) (hno : ∀ ad, ownF ad k a = none)
    (he : ∀ env, eval (.Call (.Attribute o a apos) args [] pos) env = (do
      let ov ← eval o env
      standAt apos.atName
      let (f, first) ← holding [ov] (getMethod ov a (pl env))
      callWith pos f first (backTo pos (starEach args env)) []))
    (hplain : ∀ env, (backTo pos (starEach args env)).any (·.1) = false) :
    SemE c n sc (.Call (.Attribute o a apos) args [] pos) (fun st P => To st fun v st0 => onOb k v (T st0 fun vs st1 => S (v :: vs) st1.g fun r g' => P r { st1 with g := g' })) := by
  intro A X F s st P Q rm ok g ht hq
  refine MethodCall_ (pl := pl X.env) (ho A X F s st _ _ rm ok g ht fun F0 h0 tk0 x v st0 g0 L0 r0 p0 => ?_) (he _)
  have pq := onOb_elim p0
  clear p0
  obtain ⟨p0, p1⟩ := pq
  have fin : wpAny (model c.prog c.w) A (callWith pos (.ref f) [x] (backTo pos (starEach args X.env)) []) Q (fun _ _ => False) { s with heap := h0, toks := tk0 } := by
    refine callWith_of (P := fun h => ∃ F, Stat c F h) (by rw [hplain]; rfl) (fun h ⟨F, S⟩ => by
      obtain ⟨k, a, b⟩ := looks_keep (M := model c.prog c.w) hkp S.In
      exact ⟨k, a.elim .inl (fun e => .inr (.inl e)), b⟩) (evalArgs_any (hplain _) ?_)
    refine ha A X F0 _ st0 _ _ rm ok g0 p1 fun F1 h1 tk1 xs as st1 g1 L1 r1 p1 => ?_
    refine ⟨⟨F1, g1.stat⟩, hC A F1 _ st1.g (v :: as) (x :: xs) _ _ (rm.le hm) g1.stat g1.g g1.froz ⟨x, xs, rfl, r0.later L1, r1⟩ p1 fun F2 h2 tk2 v r g' S2 G2 Z2 L2 N2 K2 r2 p2 => ?_⟩
    exact hq F2 h2 tk2 v r _ (after_call g1 ok G2 Z2 L2 N2 K2) ((L0.trans L1).trans L2) r2 p2
  cases k <;> (try (cases v <;> exact p0.elim))
  · cases v <;> (try exact p0.elim)
    rename_i k'
    cases k' <;> (try exact p0.elim)
    obtain ⟨rfl, hon⟩ : x = .ref (c.ad .circ) ∧ On c.ad := r0
    obtain ⟨ox, od, I, hod⟩ := inst_circ g0.g hon
    refine method_fn g0.stat.In I (ka_circ c.w).1 (ka_circ c.w).2 hf hfn ?_ fin
    show (lookIn a od).map (·.isSome) = some false
    rw [hod, show circF c.ad a = none from hno c.ad]; rfl
  · cases v <;> (try exact p0.elim)
    rename_i k'
    cases k' <;> (try exact p0.elim)
    obtain ⟨rfl, hon⟩ : x = .ref (c.ad .bin) ∧ On c.ad := r0
    obtain ⟨ox, od, I, hod⟩ := inst_bin g0.g hon
    refine method_fn g0.stat.In I (ka_bin c.w).1 (ka_bin c.w).2 hf hfn ?_ fin
    show (lookIn a od).map (·.isSome) = some false
    rw [hod, show binF c.ad a = none from hno c.ad]; rfl
end
end Mine

namespace Mine

inductive Fl where
  | next | brk | cont
  | ret (v : V)

noncomputable def FlRep (ad : Ob → Addr) (F : Addr → Prop) (h : Heap) : Fl → Flow → Prop
  | .next, f => f = .next
  | .brk, f => f = .brk
  | .cont, f => f = .cont
  | .ret v, f => ∃ x, f = .ret x ∧ Rep ad F h v x

abbrev SemS (c : Cx) (n : Nat) (sc : List (Str × NameKind)) (e : Stmt) (T : St → (Fl → St → Prop) → Prop) : Prop := Does c n sc (FlRep c.ad) (exec e) T
abbrev SemB (c : Cx) (n : Nat) (sc : List (Str × NameKind)) (e : List Stmt) (T : St → (Fl → St → Prop) → Prop) : Prop := Does c n sc (FlRep c.ad) (execs e) T

noncomputable def St.set (st : St) (x : Str) (v : V) : St := { loc := fun y => if y = x then some v else st.loc y, own := if st.own.isAt x then .none else st.own, g := st.g }

theorem ns_uniq {h : Heap} {a : Addr} {m m' : Str → Option Value} (x : h.Ns a m) (y : h.Ns a m') : m = m' := by
  obtain ⟨o, es, ep, e, d, k, f⟩ := x
  obtain ⟨o', es', ep', e', d', k', f'⟩ := y
  rw [e] at e'
  cases e'
  rw [d] at d'
  cases d'
  funext z
  rw [← f, ← f']

section
variable {c : Cx} {n : Nat} {sc : List (Str × NameKind)} {X : Act} {F : Addr → Prop} {h h' : Heap} {st : St}

/-- a store into one of the frame's own places z: what stays, given where the names stand after it -/
theorem Good.stored {x : Str} {v : V} {z : Addr} {u : Value} (R : Good c X F h st) (ok : ActOk c sc X) (hs : Heap.SameBut z h h') (rv : Rep c.ad F h v u)
    (zF : ¬ F z) (zg : ¬ GM c z) (z0 : X.h₀.get? z = none) (zp : ∀ p ∈ X.pins, p.1 ≠ z) (zo : ∀ a, (∃ y, st.own.isAt y = true ∧ Stored X.env h y (.ref a)) → (∃ o, h.get? a = some o ∧ (o.cls = .type "list" ∨ o.cls = .type "dict")) → a ≠ z ∨ st.own.isAt x = true)
    (ns : ∃ m, h'.Ns X.env.locals m) (cells : ∀ y a, X.env.cells.lookup y = some a → ∃ w, h'.IsCell a w)
    (old : ∀ y w, y ≠ x → Stored X.env h y w → Stored X.env h' y w) (new : Stored X.env h' x u) : Good c X F h' (st.set x v) ∧ Later F h F h' := by
  have L : Later F h F h' := ⟨fun _ f => f, fun a o f e => (hs.2 a fun q => zF (q ▸ f)).trans e⟩
  refine ⟨?_, L⟩
  exact {
    stat := R.stat.later L
    g := R.g.same L (fun a m o e => (hs.2 a fun q => zg (q ▸ m)).trans e) R.g.nf
    froz := fun a f => by obtain ⟨o, e⟩ := R.froz a f; exact ⟨o, L.2 a o f e⟩
    fnew := R.fnew
    kept := fun a o e m => (hs.2 a fun q => by rw [q, z0] at e; cases e).trans (R.kept a o e m)
    ns := ns
    LF := R.LF
    cells := fun y a l => ⟨cells y a l, (R.cells y a l).2⟩
    pins := fun p hp => ⟨(hs.2 _ (zp p hp)).trans (R.pins p hp).1, (R.pins p hp).2⟩
    loc := fun y w e => by
      by_cases hy : y = x
      · subst hy
        simp only [St.set, if_true] at e
        cases e
        exact ⟨u, new, rv.later L⟩
      · simp only [St.set, if_neg hy] at e
        obtain ⟨q, S, r⟩ := R.loc y w e
        exact ⟨q, old y q hy S, r.later L⟩
    own := by
      show OwnOk c X F h' (if st.own.isAt x then Own.none else st.own)
      cases hx : st.own.isAt x with
      | true => rw [if_pos rfl]; trivial
      | false =>
        rw [if_neg (by simp)]
        have q := R.own
        cases ho : st.own with
        | none => trivial
        | lst y a l wr =>
          rw [ho] at q
          obtain ⟨xs, s, nf, ng, nL, nc, p, r, b, pn, w⟩ := q
          have hyx : y ≠ x := by rintro rfl; rw [ho] at hx; simp [Own.isAt] at hx
          have haz : a ≠ z := by
            refine (zo a ⟨y, by rw [ho]; simp [Own.isAt], s⟩ ?_).elim id fun q => by rw [hx] at q; cases q
            obtain ⟨m, e⟩ := p
            exact ⟨_, e, .inl rfl⟩
          exact ⟨xs, old y _ hyx s, nf, ng, nL, nc, p.at fun o e => (hs.2 a haz).trans e, r.later L, b, pn, w⟩
        | dct y a ks =>
          rw [ho] at q
          obtain ⟨s, nf, nL, nc, p, w⟩ := q
          have hyx : y ≠ x := by rintro rfl; rw [ho] at hx; simp [Own.isAt] at hx
          have haz : a ≠ z := by
            refine (zo a ⟨y, by rw [ho]; simp [Own.isAt], s⟩ ?_).elim id fun q => by rw [hx] at q; cases q
            obtain ⟨⟨o, _, _, e, k, _⟩, _⟩ := p
            exact ⟨_, e, .inr k.1⟩
          exact ⟨old y _ hyx s, nf, nL, nc, DctAt.at p fun o e => (hs.2 a haz).trans e, w⟩
    noloc := fun y hy => by
      show (if y = x then some v else st.loc y) = none
      have hy' : (if st.own.isAt x then Own.none else st.own).isAt y = true := hy
      cases hx : st.own.isAt x with
      | true => rw [hx, if_pos rfl] at hy'; cases hy'
      | false =>
        rw [hx, if_neg (by simp)] at hy'
        have : y ≠ x := by rintro rfl; rw [hx] at hy'; cases hy'
        rw [if_neg this]; exact R.noloc y hy' }

/-- the own list's or dict's address is no place of the frame -/
theorem own_ne {a : Addr} (R : Good c X F h st) (ho : ∃ y, st.own.isAt y = true ∧ Stored X.env h y (.ref a)) (hx : st.own ≠ .none) : a ≠ X.env.locals ∧ ∀ y b, X.env.cells.lookup y = some b → b ≠ a := by
  obtain ⟨y, hy, s⟩ := ho
  have q := R.own
  have one : ∀ {v w : Value}, Stored X.env h y v → Stored X.env h y w → v = w := by
    rintro v w (⟨k, m, n, e⟩ | ⟨k, b, l, o, e, d⟩) (⟨k', m', n', e'⟩ | ⟨k', b', l', o', e', d'⟩)
    · rw [ns_uniq n n', e'] at e; cases e; rfl
    · rw [k] at k'; rcases k' with k' | k' <;> cases k'
    · rw [k'] at k; rcases k with k | k <;> cases k
    · rw [l] at l'; cases l'; rw [e] at e'; cases e'; rw [d] at d'; cases d'; rfl
  cases hq : st.own with
  | none => exact absurd hq hx
  | lst z b l wr =>
    rw [hq] at q hy
    obtain ⟨xs, s', nf, ng, nL, nc, _⟩ := q
    simp only [Own.isAt, beq_iff_eq] at hy
    subst hy
    cases one s s'
    exact ⟨nL, nc⟩
  | dct z b ks =>
    rw [hq] at q hy
    obtain ⟨s', nf, nL, nc, _⟩ := q
    simp only [Own.isAt, beq_iff_eq] at hy
    subst hy
    cases one s s'
    exact ⟨nL, nc⟩

theorem store_loc {A : Around} {s : Shared} {x : Str} {v : V} {u : Value} {Q : Unit → Shared → Prop} {E : Value → Shared → Prop} {M : Model} (R : Good c X F s.heap st) (ok : ActOk c sc X) (rv : Rep c.ad F s.heap v u) (hx : sc.lookup x = some .local ∨ sc.lookup x = some .cell)
    (hq : ∀ h' tk, Good c X F h' (st.set x v) → Later F s.heap F h' → Q () { s with heap := h', toks := tk }) : wpAny M A (storeName X.env x u) Q E s := by
  have hp : (X.env.scope.kind == .class || (X.env.scope.kind == .module && X.env.locals != X.env.globals)) = false := by rw [ok.kind]; rfl
  rcases hx with hx | hx
  · have hk := ok.loc x hx
    obtain ⟨m, hm⟩ := R.ns
    refine wpAny_storeName_local hk hm (fun h' hn hs => ?_) hp
    have := R.stored (x := x) (v := v) (z := X.env.locals) (u := u) ok hs rv R.LF ok.Lgm ok.Lnew (fun p hp => (ok.pin p hp).1) (fun a ho _ => .inl (own_ne R ho (by obtain ⟨y, hy, _⟩ := ho; intro q; rw [q] at hy; cases hy)).1)
      ⟨_, hn⟩ (fun y a l => ?_) (fun y w hy S => ?_) (.inl ⟨hk, _, hn, by simp⟩)
    · exact hq h' _ this.1 this.2
    · obtain ⟨⟨w, o, e, d⟩, _⟩ := R.cells y a l
      exact ⟨w, o, (hs.2 a (ok.cgm y a l).2).trans e, d⟩
    · rcases S with ⟨k, m', n', e⟩ | ⟨k, a, l, o, e, d⟩
      · refine .inl ⟨k, _, hn, ?_⟩
        rw [if_neg hy, ns_uniq hm n']; exact e
      · exact .inr ⟨k, a, l, o, (hs.2 a (ok.cgm y a l).2).trans e, d⟩
  · obtain ⟨hk, b, hb, b0⟩ := ok.cell x hx
    obtain ⟨⟨w₀, hc⟩, bF⟩ := R.cells x b hb
    refine wpAny_storeName_cell ok.kind hk hb hc fun h' hc' hs => ?_
    have := R.stored (x := x) (v := v) (z := b) (u := u) ok hs rv bF (ok.cgm x b hb).1 b0 (fun p hp => (ok.pin p hp).2.2 x b hb) (fun a ho _ => .inl ((own_ne R ho (by obtain ⟨y, hy, _⟩ := ho; intro q; rw [q] at hy; cases hy)).2 x b hb).symm)
      ?_ (fun y a l => ?_) (fun y w hy S => ?_) (.inr ⟨.inl hk, b, hb, hc'⟩)
    · exact hq h' s.toks this.1 this.2
    · obtain ⟨m, hm⟩ := R.ns
      exact ⟨m, hm.sameBut hs (ok.cgm x b hb).2.symm⟩
    · by_cases hab : a = b
      · subst hab; exact ⟨_, hc'⟩
      · obtain ⟨⟨w, o, e, d⟩, _⟩ := R.cells y a l
        exact ⟨w, o, (hs.2 a hab).trans e, d⟩
    · rcases S with ⟨k, m', n', e⟩ | ⟨k, a, l, o, e, d⟩
      · exact .inl ⟨k, m', n'.sameBut hs (ok.cgm x b hb).2.symm, e⟩
      · exact .inr ⟨k, a, l, o, (hs.2 a fun q => hy (ok.inj y x b (q ▸ l) hb)).trans e, d⟩

theorem vmp {p q : Prop} (h : p = q) (x : q) : p := h ▸ x
abbrev VT (p q : Prop) : Prop := p = q → p
/-- what is left to run, by name: a condition's walk does not look into it before it is reached -/
noncomputable def Nxt (R : St → Prop) (U : St → (Fl → St → Prop) → Prop) (P : Fl → St → Prop) : Prop := ∀ st, U st P → R st
noncomputable def seqT (T U : St → (Fl → St → Prop) → Prop) (st : St) (P : Fl → St → Prop) : Prop := T st fun fl st1 => match fl with | .next => U st1 P | fl => P fl st1
noncomputable def ifT (T : St → (Bool → St → Prop) → Prop) (U W : St → (Fl → St → Prop) → Prop) (st : St) (P : Fl → St → Prop) : Prop := T st fun t st1 => match t with | true => U st1 P | false => W st1 P
theorem Nxt.go {R : St → Prop} {U : St → (Fl → St → Prop) → Prop} {P : Fl → St → Prop} {st : St} (h : Nxt R U P) (x : U st P) : R st := h st x
theorem seq_gen {T U : St → (Fl → St → Prop) → Prop} {st : St} {P : Fl → St → Prop} (h : ∀ R : St → Prop, Nxt R U P → T st fun fl st1 => match fl with | .next => R st1 | fl => P fl st1) : seqT T U st P :=
  h (fun st1 => U st1 P) fun _ x => x
theorem if_gen {T : St → (Bool → St → Prop) → Prop} {U W : St → (Fl → St → Prop) → Prop} {st : St} {P : Fl → St → Prop}
    (h : ∀ R S : St → Prop, Nxt R U P → Nxt S W P → T st fun t st1 => match t with | true => R st1 | false => S st1) : ifT T U W st P :=
  h (fun st1 => U st1 P) (fun st1 => W st1 P) (fun _ x => x) fun _ x => x

noncomputable def NxE (R : St → Prop) (U : St → (Bool → Prop) → Prop) (P : Bool → Prop) : Prop := ∀ st, U st P → R st
noncomputable def endT (T : St → (Fl → St → Prop) → Prop) (U : St → (Bool → Prop) → Prop) (st : St) (P : Bool → Prop) : Prop := T st fun fl st1 => match fl with | .next => U st1 P | .ret (.bool b) => P b | _ => False
theorem NxE.go {R : St → Prop} {U : St → (Bool → Prop) → Prop} {P : Bool → Prop} {st : St} (h : NxE R U P) (x : U st P) : R st := h st x
theorem end_gen {T : St → (Fl → St → Prop) → Prop} {U : St → (Bool → Prop) → Prop} {st : St} {P : Bool → Prop} (h : ∀ R : St → Prop, NxE R U P → T st fun fl st1 => match fl with | .next => R st1 | .ret (.bool b) => P b | _ => False) : endT T U st P :=
  h (fun st1 => U st1 P) fun _ x => x

-- statements
theorem s_nil : SemB c n sc [] (fun st P => P .next st) :=
  fun A X F s st P Q rm ok g ht hq => wpAny_execs_nil (hq F s.heap s.toks _ .next st g (.refl _ _) rfl ht)
theorem s_cons {a : Stmt} {r : List Stmt} {T U : St → (Fl → St → Prop) → Prop} (ha : SemS c n sc a T) (hr : SemB c n sc r U) :
    SemB c n sc (a :: r) (seqT T U) := by
  intro A X F s st P Q rm ok g ht hq
  unfold seqT at ht
  refine wpAny_execs_cons (ha A X F s st _ _ rm ok g ht fun F1 h1 tk1 f fl st1 g1 L1 r1 p1 => ?_)
  cases fl with
  | next =>
    obtain rfl : f = .next := r1
    exact hr A X F1 _ st1 _ _ rm ok g1 p1 fun F2 h2 tk2 f fl st2 g2 L2 r2 p2 => hq F2 h2 tk2 f fl st2 g2 (L1.trans L2) r2 p2
  | brk => obtain rfl : f = .brk := r1; exact hq F1 h1 tk1 _ .brk st1 g1 L1 rfl p1
  | cont => obtain rfl : f = .cont := r1; exact hq F1 h1 tk1 _ .cont st1 g1 L1 rfl p1
  | ret v => obtain ⟨x, rfl, r⟩ : ∃ x, f = .ret x ∧ _ := r1; exact hq F1 h1 tk1 _ (.ret v) st1 g1 L1 ⟨x, rfl, r⟩ p1
theorem s_ret {e : Expr} {pos : Pos} {T : St → (V → St → Prop) → Prop} (he : SemE c n sc e T) : SemS c n sc (.Return (some e) pos) (fun st P => T st fun v st1 => P (.ret v) st1) := by
  intro A X F s st P Q rm ok g ht hq
  exact wpAny_Return_some (he A X F s st _ _ rm ok g ht fun F1 h1 tk1 x v st1 g1 L1 r1 p1 => hq F1 h1 tk1 _ (.ret v) st1 g1 L1 ⟨x, rfl, r1⟩ p1)
theorem s_if {e : Expr} {a b : List Stmt} {pos : Pos} {T : St → (Bool → St → Prop) → Prop} {U W : St → (Fl → St → Prop) → Prop} (he : SemT c n sc e T) (ha : SemB c n sc a U) (hb : SemB c n sc b W) :
    SemS c n sc (.If e a b pos) (ifT T U W) := by
  intro A X F s st P Q rm ok g ht hq
  unfold ifT at ht
  refine wpAny_If (he A X F s st _ _ rm ok g ht fun F1 h1 tk1 x t st1 g1 L1 r1 p1 => ?_)
  subst r1
  cases x with
  | true => exact ha A X F1 _ st1 _ _ rm ok g1 p1 fun F2 h2 tk2 y b st2 g2 L2 r2 p2 => hq F2 h2 tk2 y b st2 g2 (L1.trans L2) r2 p2
  | false => exact hb A X F1 _ st1 _ _ rm ok g1 p1 fun F2 h2 tk2 y b st2 g2 L2 r2 p2 => hq F2 h2 tk2 y b st2 g2 (L1.trans L2) r2 p2
theorem s_asgn {x : Str} {e : Expr} {px pos : Pos} {T : St → (V → St → Prop) → Prop} (he : SemE c n sc e T) (hx : sc.lookup x = some .local ∨ sc.lookup x = some .cell)
    (hs : ∀ env, env.kindOf x = some .local ∨ env.kindOf x = some .cell → env.scope.kind = .function → (sc.lookup x = some .cell → env.kindOf x = some .cell) → swapsWith e (some (.Name x px)) pos.line env = pure false) :
    SemS c n sc (.Assign [.Name x px] e pos) (fun st P => T st fun v st1 => P .next (st1.set x v)) := by
  intro A X F s st P Q rm ok g ht hq
  refine wpAny_Assign_Name (he A X F s st _ _ rm ok g ht fun F1 h1 tk1 u v st1 g1 L1 r1 p1 => ?_) (hs _ (hx.imp (ok.loc x) (fun q => (ok.cell x q).1)) ok.kind fun q => (ok.cell x q).1)
  exact store_loc g1 ok r1 hx fun h2 tk2 g2 L2 => hq F1 h2 tk2 _ .next _ g2 (L1.trans L2) rfl p1
theorem s_expr {e : Expr} {pos : Pos} {T : St → (V → St → Prop) → Prop} (he : SemE c n sc e T) (hs : ∀ env, swapsWith e none pos.line env = pure false) :
    SemS c n sc (.Expr e pos) (fun st P => T st fun v st1 => match v with | .none => P .next st1 | _ => False) := by
  intro A X F s st P Q rm ok g ht hq
  refine wpAny_Expr (he A X F s st _ _ rm ok g ht fun F1 h1 tk1 u v st1 g1 L1 r1 p1 => ?_) (by unfold interactive; rw [ok.kind]; rfl) (hs _)
  cases v <;> (try exact p1.elim)
  obtain rfl : u = .none := r1
  exact hq F1 h1 tk1 _ .next st1 g1 L1 rfl p1
end
end Mine

namespace Mine

noncomputable def retV : Fl → V
  | .ret v => v
  | _ => .none

noncomputable def initL : List (Str × V) → (Str → Option V) → Str → Option V
  | [], m => m
  | (n, v) :: r, m => initL r (fun y => if y = n then some v else m y)
noncomputable def initSt (ps : List Str) (args : List V) (g : G) : St := { loc := initL (ps.zip args) (fun _ => none), own := .none, g := g }

section
variable {c : Cx} {n : Nat}

theorem bindL_nil {k : Str → Option NameKind} {m : Str → Option Value} : bindL k [] m = m := rfl
theorem bindL_cons {k : Str → Option NameKind} {n : Str} {v : Value} {r : List (Str × Value)} {m : Str → Option Value} : bindL k ((n, v) :: r) m = bindL k r (if k n = some .local then fun y => if y = n then some v else m y else m) := rfl
theorem bindC_nil {k : Str → Option NameKind} {m : Str → Option Value} : bindC k [] m = m := rfl
theorem bindC_cons {k : Str → Option NameKind} {n : Str} {v : Value} {r : List (Str × Value)} {m : Str → Option Value} : bindC k ((n, v) :: r) m = bindC k r (if k n = some .local then m else fun y => if y = n then some v else m y) := rfl
theorem init_binds {R : V → Value → Prop} (kindOf : Str → Option NameKind) : ∀ (ps : List Str) (args : List V) (xs : List Value) (m : Str → Option V) (ml mc : Str → Option Value),
    args.length = xs.length → (∀ (i : Nat) v x, args[i]? = some v → xs[i]? = some x → R v x) →
    (∀ y v, m y = some v → ∃ u, R v u ∧ (if kindOf y = some .local then ml y = some u else mc y = some u)) →
    ∀ y v, initL (ps.zip args) m y = some v → ∃ u, R v u ∧ (if kindOf y = some .local then bindL kindOf (ps.zip xs) ml y = some u else bindC kindOf (ps.zip xs) mc y = some u)
  | [], _, _, m, ml, mc, _, _, h, y, v, e => by simpa only [List.zip_nil_left, List.zip_nil_right, initL, bindL_nil, bindC_nil] using h y v e
  | _ :: _, [], [], m, ml, mc, _, _, h, y, v, e => by simpa only [List.zip_nil_left, List.zip_nil_right, initL, bindL_nil, bindC_nil] using h y v e
  | _ :: _, [], _ :: _, _, _, _, l, _, _, _, _, _ => by simp at l
  | _ :: _, _ :: _, [], _, _, _, l, _, _, _, _, _ => by simp at l
  | p :: ps, a :: args, x :: xs, m, ml, mc, l, r, h, y, v, e => by
    simp only [List.zip_cons_cons, initL] at e
    simp only [List.zip_cons_cons, bindL_cons, bindC_cons]
    refine init_binds kindOf ps args xs _ _ _ (by simpa using l) (fun i w z q1 q2 => r (i + 1) w z (by simpa using q1) (by simpa using q2)) ?_ y v e
    intro y v e
    by_cases hy : y = p
    · subst hy
      simp only [if_true, Option.some.injEq] at e
      subst e
      refine ⟨x, r 0 a x rfl rfl, ?_⟩
      by_cases hk : kindOf y = some .local <;> simp [hk]
    · rw [if_neg hy] at e
      obtain ⟨u, ru, hu⟩ := h y v e
      refine ⟨u, ru, ?_⟩
      by_cases hk : kindOf y = some .local <;> by_cases hp : kindOf p = some .local <;> simp [hk, hp, hy] at hu ⊢ <;> exact hu

theorem all_zip {P : Str → Bool} : ∀ (ps : List Str) (xs : List Value), ps.all P = true → ((ps.zip xs).all fun y => P y.1) = true
  | [], _, _ => rfl
  | _ :: _, [], _ => rfl
  | p :: ps, x :: xs, h => by
    simp only [List.all_cons, Bool.and_eq_true] at h
    simp only [List.zip_cons_cons, List.all_cons, Bool.and_eq_true]
    exact ⟨h.1, all_zip ps xs h.2⟩

theorem ge_none {h : Heap} {a : Addr} (e : h.objs.size ≤ a) : h.get? a = none := by
  cases q : h.get? a with
  | none => rfl
  | some o => exact absurd (Heap.lt_size q) (Nat.not_lt.mpr e)

theorem callS_intro {f : Addr} {name qual : Str} {params : Arguments} {body : List Stmt} {scope : Scope} {dV kV doc pm cdv ct oc : Value} {an od : Option Addr} {osl : Array (Option Value)}
    {S : List V → G → (V → G → Prop) → Prop} {T : St → (Fl → St → Prop) → Prop} (k : Nat)
    (ho : c.K.lookup f = some ⟨oc, od, .func (fnOf name qual params body scope dV kV doc pm an cdv ct), osl⟩) (hcd : codeIn c.K cdv qual = true)
    (hbind : ∀ xs : List Value, xs.length = k → bindArgs (fnOf name qual params body scope dV kV doc pm an cdv ct) ⟨xs, []⟩ = pure ((params.args.map (·.arg)).zip xs))
    (hkind : ((params.args.map (·.arg)).all fun y => scope.names.lookup y == some .local || scope.names.lookup y == some .cell) = true)
    (hfree : scope.names.all (fun x => x.2 != .free) = true)
    (hco : scope.isCoroutine = false) (hgen : scope.isGenerator = false) (hk : scope.kind = .function)
    (hB : SemB c n scope.names body T)
    (hS : ∀ args g P, S args g P → args.length = k ∧ T (initSt (params.args.map (·.arg)) args g) (fun fl st => P (retV fl) st.g)) : CallS c (n + 1) (.ref f) S := by
  intro A F s g args xs P Q rm st gr fz r hs hq
  obtain ⟨hlen, hT⟩ := hS args g P hs
  have hxs : xs.length = k := by rw [← r.length]; exact hlen
  have hroom : A.depth < recursionLimit := by have := rm.d; show A.depth < 1000; lia
  refine wpAny_call (codeAny_call_function hroom ((st.K f _ ho).2) rfl hco hgen rfl (codeRec_of st.In hcd) ?_)
  rw [hbind xs hxs]
  refine wpAny_pure (wpAny_newFunctionEnv_cells hk (kindsX (all_zip (P := fun y => scope.names.lookup y == some .local || scope.names.lookup y == some .cell) _ xs hkind) _) fun env he s' x => ?_)
  have hL : env.locals = s.heap.objs.size := by rw [he]; rfl
  have hsc : env.scope = scope := by rw [he]; rfl
  have hcl : env.cells = cellsFrom (s.heap.objs.size + 1) scope.names [] := by rw [he]; rfl
  have hkeep := x.toInCall.keep
  have hgm : ∀ a, s.heap.objs.size ≤ a → ¬ GM c a := fun a ha m => by
    obtain ⟨o, e⟩ := gr.there a m
    exact absurd (Heap.lt_size e) (Nat.not_lt.mpr ha)
  have above : ∀ y a, env.cells.lookup y = some a → s.heap.objs.size < a := fun y a l => by
    have := x.above y a (mem_of_lookup l)
    rwa [hL] at this
  obtain ⟨h', tk', rfl, _⟩ := x.done
  let X : Act := { env := env, h₀ := s.heap, F₀ := F, pins := [] }
  have ok : ActOk c scope.names X := {
    kind := by show env.scope.kind = _; rw [hsc]; exact hk
    glob := by show env.globals = _; rw [he]; rfl
    blt := by show env.builtins = _; rw [he]; rfl
    loc := fun y hy => by show env.scope.names.lookup y = _; rw [hsc]; exact hy
    gl := fun y hy => by show env.scope.names.lookup y = _; rw [hsc]; exact hy
    cell := fun y hy => by
      refine ⟨by show env.scope.names.lookup y = _; rw [hsc]; exact hy, ?_⟩
      have := cellsFrom_some (x := y) scope.names (s.heap.objs.size + 1) [] (.inl hy)
      obtain ⟨a, ha⟩ := Option.isSome_iff_exists.mp this
      exact ⟨a, by show env.cells.lookup y = _; rw [hcl]; exact ha, ge_none (Nat.le_of_lt (above y a (by rw [hcl]; exact ha)))⟩
    free := fun y hy => by
      have := List.all_eq_true.mp hfree _ (mem_of_lookup hy)
      simp at this
    inj := fun y z a h1 h2 => name_of_addr x.apart (mem_of_lookup h1) (mem_of_lookup h2)
    Lnew := by show s.heap.get? env.locals = none; rw [hL]; exact none_at_size _
    Lgm := by show ¬ GM c env.locals; rw [hL]; exact hgm _ (Nat.le_refl _)
    cgm := fun y a l => ⟨hgm _ (Nat.le_of_lt (above y a l)), by show a ≠ env.locals; rw [hL]; exact Nat.ne_of_gt (above y a l)⟩
    pin := fun p hp => by cases hp }
  have L0 : Later F s.heap F h' := ⟨fun _ f => f, fun a o _ e => hkeep a o e⟩
  have good : Good c X F h' (initSt (params.args.map (·.arg)) args g) := {
    stat := st.later L0
    g := gr.same L0 (fun a _ o e => hkeep a o e) gr.nf
    froz := fun a f => by obtain ⟨o, e⟩ := fz a f; exact ⟨o, hkeep _ _ e⟩
    fnew := fun a f => .inl f
    kept := fun a o e _ => hkeep a o e
    ns := ⟨_, x.toInCall.ns⟩
    LF := fun f => by obtain ⟨o, e⟩ := fz _ f; have e' : s.heap.get? env.locals = some o := e; rw [hL, none_at_size] at e'; cases e'
    cells := fun y a l => ⟨⟨_, x.cell y a l⟩, fun f => by obtain ⟨o, e⟩ := fz _ f; rw [ge_none (Nat.le_of_lt (above y a l))] at e; cases e⟩
    pins := fun p hp => by cases hp
    loc := fun y v e => by
      obtain ⟨u, ru, hu⟩ := init_binds (R := Rep c.ad F h') env.kindOf (params.args.map Arg.arg) args xs (fun _ => none) (fun _ => none) (fun _ => none) (by rw [hlen, hxs])
        (fun i w z q1 q2 => by obtain ⟨z', e1, e2⟩ := (r.later L0).get q1; rw [q2] at e1; cases e1; exact e2) (fun y v q => by cases q) y v e
      refine ⟨u, ?_, ru⟩
      have hmem : ∀ (l : List (Str × V)) (m : Str → Option V), initL l m y = some v → (∃ w, (y, w) ∈ l) ∨ m y = some v := by
        intro l
        induction l with
        | nil => exact fun m e => .inr e
        | cons p l ih =>
          intro m e
          obtain ⟨p1, p2⟩ := p
          rcases ih _ e with ⟨w, q⟩ | q
          · exact .inl ⟨w, .tail _ q⟩
          · by_cases hy : y = p1
            · subst hy; exact .inl ⟨p2, .head _⟩
            · rw [if_neg hy] at q; exact .inr q
      have hy : y ∈ params.args.map (·.arg) := by
        rcases hmem _ _ e with ⟨w, q⟩ | q
        · exact (List.of_mem_zip q).1
        · cases q
      have hk' := List.all_eq_true.mp hkind y hy
      have hko : env.kindOf y = scope.names.lookup y := by show env.scope.names.lookup y = _; rw [hsc]
      rcases Bool.or_eq_true_iff.mp hk' with q | q
      · have q' : scope.names.lookup y = some .local := by simpa using q
        rw [hko, if_pos q'] at hu
        exact .inl ⟨by rw [hko]; exact q', _, x.toInCall.ns, hu⟩
      · have q' : scope.names.lookup y = some .cell := by simpa using q
        rw [hko, if_neg (by rw [q']; decide)] at hu
        obtain ⟨_, a, la, _⟩ := ok.cell y q'
        refine .inr ⟨.inl (by rw [hko]; exact q'), a, la, ?_⟩
        have := x.cell y a la
        rwa [hu] at this
    own := trivial
    noloc := fun y hy => by cases hy }
  refine ⟨good.stat.lim.2, codeAny_func ?_⟩
  have rm' : Room (A.deeper env) n := ⟨rm.h, by have := rm.d; show A.depth + 1 + n ≤ 600; lia, by have := rm.u; show A.units + 3 + 8 * n ≤ 5000; lia⟩
  refine wpAny_mono (hB (A.deeper env) X F { s with heap := h', toks := tk' } _ _ (fun f s' => match (motive := Result → Shared → Prop) (.ok (.ret (match f with | .ret v => v | _ => .none)) : Result), s' with | .ok (.ret v), s' => Q v s' | .ok _, _ => False | .error e, _ => False) rm' ok good hT ?_) (fun _ _ q => q) (fun _ _ q => q.elim)
  intro F2 h2 tk2 fl flv st2 g2 L2 r2 p2
  have keep2 : ∀ a o, s.heap.get? a = some o → ¬ GM c a → h2.get? a = some o := g2.kept
  have fin : ∀ v, Rep c.ad F2 h2 (retV flv) v → Q v { s with heap := h2, toks := tk2 } := fun v rv =>
    hq F2 h2 tk2 v _ st2.g g2.stat g2.g g2.froz (L0.trans L2) g2.fnew keep2 rv p2
  cases flv with
  | next => obtain rfl : fl = .next := r2; exact fin _ rep_none
  | brk => obtain rfl : fl = .brk := r2; exact fin _ rep_none
  | cont => obtain rfl : fl = .cont := r2; exact fin _ rep_none
  | ret v => obtain ⟨x, rfl, q⟩ : ∃ x, fl = .ret x ∧ _ := r2; exact fin _ q
end
end Mine

namespace Mine

inductive It where
  | one (v : V)
  | two (a b : V)
noncomputable def ItRep (ad : Ob → Addr) (F : Addr → Prop) (h : Heap) : It → Value → Prop
  | .one v, x => Rep ad F h v x
  | .two a b, x => ∃ T u w, x = .ref T ∧ h.IsTuple T #[u, w] ∧ Rep ad F h a u ∧ Rep ad F h b w

noncomputable def Act.pin (X : Act) (ps : List (Addr × Obj)) : Act := { X with pins := ps ++ X.pins }
noncomputable def snap (h : Heap) (fr : List Addr) : List (Addr × Obj) := fr.filterMap fun b => (h.get? b).map fun o => (b, o)
theorem mem_snap {h : Heap} {fr : List Addr} {p : Addr × Obj} : p ∈ snap h fr ↔ p.1 ∈ fr ∧ h.get? p.1 = some p.2 := by
  unfold snap
  simp only [List.mem_filterMap, Option.map_eq_some_iff]
  constructor
  · rintro ⟨b, hb, o, e, rfl⟩; exact ⟨hb, e⟩
  · rintro ⟨hb, e⟩; exact ⟨p.1, hb, p.2, e, rfl⟩

section
variable {c : Cx} {sc : List (Str × NameKind)} {X : Act} {F F' : Addr → Prop} {h h' hb : Heap} {st st' : St}

/-- addresses that were free when all stood well are no place of anything -/
structure Free (c : Cx) (X : Act) (hb : Heap) (fr : List Addr) : Prop where
  loc : ∀ b ∈ fr, b ≠ X.env.locals
  gm : ∀ b ∈ fr, ¬ GM c b
  cell : ∀ b ∈ fr, ∀ x a, X.env.cells.lookup x = some a → b ≠ a
  old : ∀ b ∈ fr, X.h₀.get? b = none
  pin : ∀ p ∈ X.pins, p.1 ∉ fr

theorem Good.free (R : Good c X F hb st) {fr : List Addr} (hf : ∀ b ∈ fr, hb.get? b = none) : Free c X hb fr where
  loc := fun b hm e => by obtain ⟨m, o, _, _, q, _⟩ := R.ns; rw [← e, hf b hm] at q; cases q
  gm := fun b hm m => by obtain ⟨o, e⟩ := R.g.there b m; rw [hf b hm] at e; cases e
  cell := fun b hm x a l e => by obtain ⟨⟨v, o, q, _⟩, _⟩ := R.cells x a l; rw [← e, hf b hm] at q; cases q
  old := fun b hm => by
    cases q : X.h₀.get? b with
    | none => rfl
    | some o =>
      by_cases m : GM c b
      · obtain ⟨o', e⟩ := R.g.there b m; rw [hf b hm] at e; cases e
      · have := R.kept b o q m; rw [hf b hm] at this; cases this
  pin := fun p hp hm => by have := (R.pins p hp).1; rw [hf _ hm] at this; cases this

theorem ActOk.pinned (ok : ActOk c sc X) {fr : List Addr} (fre : Free c X hb fr) {ps : List (Addr × Obj)} (hp : ∀ p ∈ ps, p.1 ∈ fr) : ActOk c sc (X.pin ps) := { ok with
  pin := fun p hm => by
    rcases List.mem_append.mp hm with hm | hm
    · exact ⟨fre.loc _ (hp p hm), fre.gm _ (hp p hm), fun x a l => fre.cell _ (hp p hm) x a l⟩
    · exact ok.pin p hm }

theorem Good.unpin {ps : List (Addr × Obj)} (R : Good c (X.pin ps) F h st) : Good c X F h st := { R with
  stat := R.stat, g := R.g, froz := R.froz, fnew := R.fnew, kept := R.kept, ns := R.ns, LF := R.LF, cells := R.cells, loc := R.loc, noloc := R.noloc
  pins := fun p hp => R.pins p (List.mem_append_right _ hp)
  own := by
    have q := R.own
    cases ho : st.own with
    | none => trivial
    | lst x a l wr =>
      rw [ho] at q
      obtain ⟨xs, s, nf, ng, nL, nc, p, r, z, pn, w⟩ := q
      exact ⟨xs, s, nf, ng, nL, nc, p, r, z, fun p hp => pn p (List.mem_append_right _ hp), fun e => ⟨(w e).1, (w e).2.1, fun p hp => pn p (List.mem_append_right _ hp)⟩⟩
    | dct x a ks =>
      rw [ho] at q
      obtain ⟨s, nf, nL, nc, p, w⟩ := q
      exact ⟨s, nf, nL, nc, p, w.1, w.2.1, fun p hp => w.2.2 p (List.mem_append_right _ hp)⟩ }

/-- pins laid at addresses that were free -/
theorem Good.repin (R : Good c X F h st) (fre : Free c X hb fr) (hF : ∀ b ∈ fr, ¬ F b) (hO : ∀ b ∈ fr, ∀ x, st.own.isAt x = true → ∀ u, Stored X.env h x u → u ≠ .ref b) {ps : List (Addr × Obj)} (hp : ∀ p ∈ ps, p.1 ∈ fr ∧ h.get? p.1 = some p.2) : Good c (X.pin ps) F h st := { R with
  stat := R.stat, g := R.g, froz := R.froz, fnew := R.fnew, kept := R.kept, ns := R.ns, LF := R.LF, cells := R.cells, loc := R.loc, noloc := R.noloc
  pins := fun p hm => by
    rcases List.mem_append.mp hm with hm | hm
    · exact ⟨(hp p hm).2, hF _ (hp p hm).1⟩
    · exact R.pins p hm
  own := by
    have q := R.own
    cases ho : st.own with
    | none => trivial
    | lst x a l wr =>
      rw [ho] at q
      obtain ⟨xs, s, nf, ng, nL, nc, p, r, z, pn, w⟩ := q
      have pn' : ∀ p ∈ ps ++ X.pins, p.1 ≠ a := fun p hm => by
        rcases List.mem_append.mp hm with hm | hm
        · intro e; exact hO _ (hp p hm).1 x (by rw [ho]; simp [Own.isAt]) _ s (by rw [e])
        · exact pn p hm
      exact ⟨xs, s, nf, ng, nL, nc, p, r, z, pn', fun e => ⟨(w e).1, (w e).2.1, pn'⟩⟩
    | dct x a ks =>
      rw [ho] at q
      obtain ⟨s, nf, nL, nc, p, w⟩ := q
      have pn' : ∀ p ∈ ps ++ X.pins, p.1 ≠ a := fun p hm => by
        rcases List.mem_append.mp hm with hm | hm
        · intro e; exact hO _ (hp p hm).1 x (by rw [ho]; simp [Own.isAt]) _ s (by rw [e])
        · exact w.2.2 p hm
      exact ⟨s, nf, nL, nc, p, w.1, w.2.1, pn'⟩ }

theorem stored_one {X : Act} {y : Str} {v w : Value} : Stored X.env h y v → Stored X.env h y w → v = w := by
  rintro (⟨k, m, n, e⟩ | ⟨k, b, l, o, e, d⟩) (⟨k', m', n', e'⟩ | ⟨k', b', l', o', e', d'⟩)
  · rw [ns_uniq n n', e'] at e; cases e; rfl
  · rw [k] at k'; rcases k' with k' | k' <;> cases k'
  · rw [k'] at k; rcases k with k | k <;> cases k
  · rw [l] at l'; cases l'; rw [e] at e'; cases e'; rw [d] at d'; cases d'; rfl

/-- the own list or dict is no address that the pins hold -/
theorem Good.ownPin {ps : List (Addr × Obj)} (R : Good c (X.pin ps) F h st) : ∀ p ∈ ps, ∀ x, st.own.isAt x = true → ∀ u, Stored X.env h x u → u ≠ .ref p.1 := by
  intro p hp x hx u su e
  have q := R.own
  cases ho : st.own with
  | none => rw [ho] at hx; cases hx
  | lst y a l wr =>
    rw [ho] at q hx
    obtain ⟨xs, s, nf, ng, nL, nc, _, r, z, pn, w⟩ := q
    simp only [Own.isAt, beq_iff_eq] at hx
    subst hx
    have := stored_one su s
    subst e
    cases this
    exact pn p (List.mem_append_left _ hp) rfl
  | dct y a ks =>
    rw [ho] at q hx
    obtain ⟨s, nf, nL, nc, _, w⟩ := q
    simp only [Own.isAt, beq_iff_eq] at hx
    subst hx
    have := stored_one su s
    subst e
    cases this
    exact w.2.2 p (List.mem_append_left _ hp) rfl

/-- a step that writes at pinned addresses alone -/
theorem Good.off {fr wr : List Addr} (R : Good c X F h st) (fre : Free c X hb fr) (hw : ∀ b ∈ wr, b ∈ fr) (hF : ∀ b ∈ fr, ¬ F b) (hO : ∀ b ∈ fr, ∀ x, st.own.isAt x = true → ∀ u, Stored X.env h x u → u ≠ .ref b)
    (k : ∀ b o, b ∉ wr → h.get? b = some o → h'.get? b = some o) : Good c X F h' st ∧ Later F h F h' := by
  have L : Later F h F h' := ⟨fun _ f => f, fun a o f e => k a o (fun q => hF a (hw a q) f) e⟩
  have kL : ∀ o, h.get? X.env.locals = some o → h'.get? X.env.locals = some o := fun o e => k _ o (fun q => fre.loc _ (hw _ q) rfl) e
  have kc : ∀ y a, X.env.cells.lookup y = some a → ∀ o, h.get? a = some o → h'.get? a = some o := fun y a l o e => k a o (fun q => fre.cell _ (hw _ q) y a l rfl) e
  refine ⟨?_, L⟩
  exact {
    stat := R.stat.later L
    g := R.g.same L (fun a m o e => k a o (fun q => fre.gm _ (hw _ q) m) e) R.g.nf
    froz := fun a f => by obtain ⟨o, e⟩ := R.froz a f; exact ⟨o, L.2 a o f e⟩
    fnew := R.fnew
    kept := fun a o e m => k a o (fun q => by rw [fre.old _ (hw _ q)] at e; cases e) (R.kept a o e m)
    ns := by obtain ⟨m, n⟩ := R.ns; exact ⟨m, n.at' kL⟩
    LF := R.LF
    cells := fun y a l => by obtain ⟨⟨v, o, e, d⟩, f⟩ := R.cells y a l; exact ⟨⟨v, o, kc y a l o e, d⟩, f⟩
    pins := fun p hp => ⟨k _ _ (fun q => fre.pin p hp (hw _ q)) (R.pins p hp).1, (R.pins p hp).2⟩
    loc := fun y w e => by obtain ⟨q, S, r⟩ := R.loc y w e; exact ⟨q, S.at kL kc, r.later L⟩
    own := by
      have q := R.own
      cases ho : st.own with
      | none => trivial
      | lst y a l wr' =>
        rw [ho] at q
        obtain ⟨xs, s, nf, ng, nL, nc, p, r, z, pn, w⟩ := q
        have ha : a ∉ wr := fun m => hO a (hw a m) y (by rw [ho]; simp [Own.isAt]) _ s rfl
        exact ⟨xs, s.at kL kc, nf, ng, nL, nc, p.at fun o e => k a o ha e, r.later L, z, pn, w⟩
      | dct y a ks =>
        rw [ho] at q
        obtain ⟨s, nf, nL, nc, p, w⟩ := q
        have ha : a ∉ wr := fun m => hO a (hw a m) y (by rw [ho]; simp [Own.isAt]) _ s rfl
        exact ⟨s.at kL kc, nf, nL, nc, DctAt.at p fun o e => k a o ha e, w⟩
    noloc := R.noloc }

end

/-- an iterator that hands out l, made after the heap hb -/
structure Turn (c : Cx) (A : Around) (target : Expr) (F : Addr → Prop) (hb : Heap) (I : Addr) (fp wr fr : List Addr) (l : List It) (Md : Nat → Value → Heap → Prop) (St : Nat → Heap → Prop) : Prop where
  turns : KTurns c.prog c.w A target I fp wr l.length (fun i v h => ∀ F', Later F hb F' h → ∃ it, l[i]? = some it ∧ ItRep c.ad F' h it v) Md St
  self : ∀ i s Q (E : Value → Shared → Prop), St i s.heap → Q (.ref I) s → wpAny (model c.prog c.w) A (pyIter (.ref I)) Q E s
  sub : ∀ b ∈ wr, b ∈ fr
  fresh : ∀ b ∈ fr, hb.get? b = none
  froz : ∀ b ∈ fp, F b ∨ b ∈ fr
  there : ∀ i h, St i h → ∀ b ∈ fr, ∃ o, h.get? b = some o
  size : l.length ≤ sizeLine

section
variable {c : Cx} {n : Nat} {sc : List (Str × NameKind)}

noncomputable def SemI (c : Cx) (n : Nat) (sc : List (Str × NameKind)) (target e : Expr) (T : St → (List It → St → Prop) → Prop) : Prop :=
  ∀ (A : Around) (X : Act) (F : Addr → Prop) (s : Shared) (st : St) (P : List It → St → Prop) (Q : Value → Shared → Prop), Room A n → ActOk c sc X → Good c X F s.heap st → T st P →
    (∀ F' hb h' tk I fp wr fr l st' Md St, Good c X F' hb st' → (∀ b o, hb.get? b = some o → h'.get? b = some o) → Later F s.heap F' hb → Turn c A target F' hb I fp wr fr l Md St → St 0 h' → P l st' → Q (.ref I) { s with heap := h', toks := tk }) →
    wpAny (model c.prog c.w) A (eval e X.env) (fun x s₁ => wpAny (model c.prog c.w) A (pyIter x) Q (fun _ _ => False) s₁) (fun _ _ => False) s

/-- a target -/
inductive Tgt (sc : List (Str × NameKind)) : Expr → (It → St → (St → Prop) → Prop) → Prop
  | name {x pos} (h : sc.lookup x = some .local ∨ sc.lookup x = some .cell) : Tgt sc (.Name x pos) (fun it st P => match it with | .one v => P (st.set x v) | _ => False)
  | pair {x y px py k pos} (hx : sc.lookup x = some .local ∨ sc.lookup x = some .cell) (hy : sc.lookup y = some .local ∨ sc.lookup y = some .cell) : Tgt sc (.Tuple [.Name x px, .Name y py] k pos) (fun it st P => match it with | .two a b => P ((st.set x a).set y b) | _ => False)

theorem assign_tgt {target : Expr} {as : It → St → (St → Prop) → Prop} (ht : Tgt sc target as) {A : Around} {X : Act} {F : Addr → Prop} {s : Shared} {st : St} {it : It} {x : Value} {P : St → Prop} {Q : Unit → Shared → Prop} {E : Value → Shared → Prop} (hh : A.handled = none) (ok : ActOk c sc X) (R : Good c X F s.heap st) (hi : ItRep c.ad F s.heap it x) (hP : as it st P)
    (hq : ∀ h' tk st', Good c X F h' st' → Later F s.heap F h' → P st' → Q () { s with heap := h', toks := tk }) : wpAny (model c.prog c.w) A (assign target X.env x) Q E s := by
  cases ht with
  | name h =>
    rename_i x' pos
    cases it with
    | two a b => exact hP.elim
    | one v => exact wpAny_assign_Name (store_loc R ok hi h fun h' tk R' L => hq h' tk _ R' L hP)
  | pair hx hy =>
    rename_i x' y' px py k pos
    cases it with
    | one v => exact hP.elim
    | two a b =>
      obtain ⟨T, u, w, rfl, hT, ra, rb⟩ := hi
      refine wpAny_assign_Tuple hh hT rfl rfl fun h₁ he₁ => ?_
      have up₁ : ∀ c o, s.heap.get? c = some o → h₁.get? c = some o := fun c o e => he₁ c o (Nat.ne_of_lt (Heap.lt_size e)) e
      have R₁ := R.keepAll ok up₁
      have L₁ : Later F s.heap F h₁ := Later.keepAll up₁
      show wpAny _ _ (assignInOrder [assign (.Name x' px) X.env, assign (.Name y' py) X.env] [u, w]) _ _ _
      refine assignInOrder_cons (wpAny_assign_Name (store_loc (s := { s with heap := h₁ }) R₁ ok (ra.later L₁) hx fun h₂ tk₂ R₂ L₂ => ?_))
      refine assignInOrder_cons (wpAny_assign_Name (store_loc (s := { s with heap := h₂, toks := tk₂ }) R₂ ok ((rb.later L₁).later L₂) hy fun h₃ tk₃ R₃ L₃ => ?_))
      exact assignInOrder_nil (hq h₃ tk₃ _ R₃ ((L₁.trans L₂).trans L₃) hP)

noncomputable def forT (as : It → St → (St → Prop) → Prop) (U : St → (Fl → St → Prop) → Prop) : List It → St → (Fl → St → Prop) → Prop
  | [], st, P => P .next st
  | it :: r, st, P => as it st fun st1 => U st1 fun fl st2 => match fl with
    | .next => forT as U r st2 P
    | .cont => forT as U r st2 P
    | .brk => P .next st2
    | .ret v => P (.ret v) st2

noncomputable def forS (as : It → St → (St → Prop) → Prop) (TI : St → (List It → St → Prop) → Prop) (U : St → (Fl → St → Prop) → Prop) (st : St) (P : Fl → St → Prop) : Prop := TI st fun l st1 => forT as U l st1 P
noncomputable def NxF (R : List It → St → Prop) (as : It → St → (St → Prop) → Prop) (U : St → (Fl → St → Prop) → Prop) (P : Fl → St → Prop) : Prop := ∀ l st, forT as U l st P → R l st
theorem NxF.go {R : List It → St → Prop} {as : It → St → (St → Prop) → Prop} {U : St → (Fl → St → Prop) → Prop} {P : Fl → St → Prop} {l : List It} {st : St} (h : NxF R as U P) (x : forT as U l st P) : R l st := h l st x
theorem for_gen {as : It → St → (St → Prop) → Prop} {TI : St → (List It → St → Prop) → Prop} {U : St → (Fl → St → Prop) → Prop} {st : St} {P : Fl → St → Prop}
    (h : ∀ R : List It → St → Prop, NxF R as U P → TI st R) : forS as TI U st P := h (fun l st1 => forT as U l st1 P) fun _ _ x => x

theorem s_for {target iter : Expr} {body : List Stmt} {pos : Pos} {as : It → St → (St → Prop) → Prop} {TI : St → (List It → St → Prop) → Prop} {U : St → (Fl → St → Prop) → Prop} (ht : Tgt sc target as) (hi : SemI c n sc target iter TI) (hb : SemB c n sc body U)
    (hs : ∀ env x, foldedSetIterable iter env x = pure x) : SemS c n sc (.For target iter body [] pos) (forS as TI U) := by
  intro A X F s st P Q rm ok g htt hq
  unfold forS at htt
  refine wpAny_For (wpAny_mono (hi A X F s st _ (fun it s₂ => codeAny (model c.prog c.w) A (.forLoop target it body [] X.env) (fun r s' => match r with | .ok f => Q f s' | .error e => cameBackBy (model c.prog c.w) A X.env (fun _ _ => False) e s') s₂) rm ok g htt ?_) (fun _ _ h₁ => h₁) fun _ _ e => e) (hs _)
  intro F₁ h₁ h₂ tk₂ I fp wr fr l st₁ Md St g₁ up L₁ W st0 hP
  have fre := g₁.free W.fresh
  have hpass : PassesOwn (model c.prog c.w) A X.env (fun _ _ => False) := PassesOwn.never
  have okp : ∀ h, ActOk c sc (X.pin (snap h fr)) := fun h => ok.pinned (hb := h₁) fre fun p hp => (mem_snap.mp hp).1
  have g₂ : Good c X F₁ h₂ st₁ := g₁.keepAll ok up
  have start : Good c (X.pin (snap h₂ fr)) F₁ h₂ st₁ := g₂.repin fre (fun b hm f => by obtain ⟨o, e⟩ := g₁.froz b f; rw [W.fresh b hm] at e; cases e)
    (fun b hm x hx u su => by
      intro e
      obtain ⟨y, hy, sy⟩ : ∃ y, st₁.own.isAt y = true ∧ Stored X.env h₂ y u := ⟨x, hx, su⟩
      have q := g₁.own
      cases ho : st₁.own with
      | none => rw [ho] at hx; cases hx
      | lst z a l wr =>
        rw [ho] at q hx
        obtain ⟨xs, s', _, _, _, _, p, _⟩ := q
        simp only [Own.isAt, beq_iff_eq] at hx
        subst hx
        have := stored_one su (s'.at (fun o q => up _ o q) (fun y a l o q => up a o q))
        subst e; cases this
        obtain ⟨n, e⟩ := p; rw [W.fresh b hm] at e; cases e
      | dct z a ks =>
        rw [ho] at q hx
        obtain ⟨s', _, _, _, p, _⟩ := q
        simp only [Own.isAt, beq_iff_eq] at hx
        subst hx
        have := stored_one su (s'.at (fun o q => up _ o q) (fun y a l o q => up a o q))
        subst e; cases this
        obtain ⟨⟨o, _, _, e, _⟩, _⟩ := p; rw [W.fresh b hm] at e; cases e)
    fun p hp => mem_snap.mp hp
  have L₂ : Later F₁ h₁ F₁ h₂ := Later.keepAll up
  refine codeAny_forLoop_any
    (fun k s' => ∃ F' h' tk st' i, s' = { s with heap := h', toks := tk } ∧ St i h' ∧ Good c (X.pin (snap h' fr)) F' h' st' ∧ Later F₁ h₁ F' h' ∧ forT as U (l.drop i) st' P ∧ i ≤ l.length ∧ k = l.length + 1 - i) ?_ (l.length + 1)
    ⟨F₁, h₂, tk₂, st₁, 0, rfl, st0, start, L₂, hP, Nat.zero_le _, rfl⟩
  rintro k s' ⟨F', h', tk, st', i, rfl, hst', g', L', hT, hi, rfl⟩
  have gX := g'.unpin
  have nF : ∀ b ∈ fr, ¬ F' b := fun b hm f => by
    obtain ⟨o, e⟩ := W.there i h' hst' b hm
    exact (g'.pins (b, o) (List.mem_append_left _ (mem_snap.mpr ⟨hm, e⟩))).2 f
  have nO : ∀ b ∈ fr, ∀ x, st'.own.isAt x = true → ∀ u, Stored X.env h' x u → u ≠ .ref b := fun b hm x hx u su => by
    obtain ⟨o, e⟩ := W.there i h' hst' b hm
    exact g'.ownPin (b, o) (mem_snap.mpr ⟨hm, e⟩) x hx u su
  by_cases hlt : i < l.length
  · refine W.turns.item i _ _ _ hlt hst' fun v h₃ tk₃ hMd hk₃ => ?_
    refine W.turns.go i v _ _ _ hMd fun h₄ hP₄ hst₄ hk₄ => ?_
    have hk : ∀ b o, b ∉ wr → h'.get? b = some o → h₄.get? b = some o := fun b o q e => hk₄ b o q (hk₃ b o q e)
    obtain ⟨g₄, L₄⟩ := gX.off fre W.sub nF nO hk
    have nO₄ : ∀ b ∈ fr, ∀ x, st'.own.isAt x = true → ∀ u, Stored X.env h₄ x u → u ≠ .ref b := fun b hm x hx u su e => by
      have q := gX.own
      cases ho : st'.own with
      | none => rw [ho] at hx; cases hx
      | lst z a l' wr' =>
        rw [ho] at q hx
        obtain ⟨xs, s', _, _, _, _, p, _⟩ := q
        simp only [Own.isAt, beq_iff_eq] at hx
        subst hx
        have s'' := s'.at (h' := h₄) (fun o q => hk _ o (fun m => fre.loc _ (W.sub _ m) rfl) q) (fun y a l o q => hk a o (fun m => fre.cell _ (W.sub _ m) y a l rfl) q)
        have := stored_one su s''
        subst e; cases this
        exact nO _ hm z (by rw [ho]; simp [Own.isAt]) _ s' rfl
      | dct z a ks =>
        rw [ho] at q hx
        obtain ⟨s', _, _, _, p, _⟩ := q
        simp only [Own.isAt, beq_iff_eq] at hx
        subst hx
        have s'' := s'.at (h' := h₄) (fun o q => hk _ o (fun m => fre.loc _ (W.sub _ m) rfl) q) (fun y a l o q => hk a o (fun m => fre.cell _ (W.sub _ m) y a l rfl) q)
        have := stored_one su s''
        subst e; cases this
        exact nO _ hm z (by rw [ho]; simp [Own.isAt]) _ s' rfl
    have gp₄ := g₄.repin fre nF nO₄ (ps := snap h₄ fr) fun p hp => mem_snap.mp hp
    obtain ⟨it, hit, ri⟩ := hP₄ F' (L'.trans L₄)
    rw [show l.drop i = it :: l.drop (i + 1) by rw [List.drop_eq_getElem_cons hlt]; rw [List.getElem?_eq_getElem hlt] at hit; cases hit; rfl] at hT
    refine assign_tgt ht (X := X.pin (snap h₄ fr)) (s := { s with heap := h₄, toks := tk₃ }) rm.h (okp h₄) gp₄ ri hT fun h₅ tk₅ st₅ g₅ L₅ hU => ?_
    refine wpAny_mono (hb A (X.pin (snap h₄ fr)) F' { s with heap := h₅, toks := tk₅ } st₅ _ (fun f s₃ => match f with
            | .next | .cont => ∃ m, m < l.length + 1 - i ∧ ∃ F' h' tk st' i, s₃ = { s with heap := h', toks := tk } ∧ St i h' ∧ Good c (X.pin (snap h' fr)) F' h' st' ∧ Later F₁ h₁ F' h' ∧ forT as U (l.drop i) st' P ∧ i ≤ l.length ∧ m = l.length + 1 - i
            | .brk => Q .next s₃
            | .ret v => Q (.ret v) s₃) rm (okp h₄) g₅ hU ?_) (fun f s₃ x => ?_) fun _ _ e => e.elim
    · intro F₆ h₆ tk₆ f fl st₆ g₆ L₆ rf hT₆
      have nxt : forT as U (l.drop (i + 1)) st₆ P → ∃ m, m < l.length + 1 - i ∧ ∃ F' h' tk st' i, ({ s with heap := h₆, toks := tk₆ } : Shared) = { s with heap := h', toks := tk } ∧ St i h' ∧ Good c (X.pin (snap h' fr)) F' h' st' ∧ Later F₁ h₁ F' h' ∧ forT as U (l.drop i) st' P ∧ i ≤ l.length ∧ m = l.length + 1 - i := fun hT => by
        refine ⟨l.length + 1 - (i + 1), by lia, F₆, h₆, tk₆, st₆, i + 1, rfl, ?_, ?_, ((L'.trans L₄).trans L₅).trans L₆, hT, hlt, rfl⟩
        · refine W.turns.frame _ _ _ hst₄ fun b hm o e => ?_
          rcases W.froz b hm with f | f
          · exact L₆.2 b o (L₅.1 b (L₄.1 b (L'.1 b f))) (L₅.2 b o (L₄.1 b (L'.1 b f)) e)
          · exact (g₆.pins (b, o) (List.mem_append_left _ (mem_snap.mpr ⟨f, e⟩))).1
        · refine g₆.unpin.repin fre (fun b hm f => ?_) (fun b hm x hx u su => ?_) (ps := snap h₆ fr) fun p hp => mem_snap.mp hp
          · obtain ⟨o, e⟩ := W.there _ _ hst₄ b hm
            exact (g₆.pins (b, o) (List.mem_append_left _ (mem_snap.mpr ⟨hm, e⟩))).2 f
          · obtain ⟨o, e⟩ := W.there _ _ hst₄ b hm
            exact g₆.ownPin (b, o) (mem_snap.mpr ⟨hm, e⟩) x hx u su
      have L6 : Later F s.heap F₆ h₆ := (((L₁.trans L').trans L₄).trans L₅).trans L₆
      cases fl with
      | next => obtain rfl : f = .next := rf; exact nxt hT₆
      | cont => obtain rfl : f = .cont := rf; exact nxt hT₆
      | brk => obtain rfl : f = .brk := rf; exact hq F₆ h₆ tk₆ .next .next st₆ g₆.unpin L6 rfl hT₆
      | ret v => obtain ⟨x, rfl, rx⟩ : ∃ x, f = .ret x ∧ _ := rf; exact hq F₆ h₆ tk₆ _ (.ret v) st₆ g₆.unpin L6 ⟨x, rfl, rx⟩ hT₆
    · cases f <;> exact x
  · obtain rfl : i = l.length := by lia
    refine W.turns.done _ _ _ hst' fun h₃ tk₃ hk₃ => wpAny_execs_nil ?_
    obtain ⟨g₃, L₃⟩ := gX.off fre W.sub nF nO hk₃
    rw [List.drop_length] at hT
    exact hq F' h₃ tk₃ .next .next st' g₃ ((L₁.trans L').trans L₃) rfl hT

noncomputable def whT (Tt : St → (Bool → St → Prop) → Prop) (U : St → (Fl → St → Prop) → Prop) : Nat → St → (Fl → St → Prop) → Prop
  | 0, _, _ => False
  | k + 1, st, P => Tt st fun b st1 => match b with
    | false => P .next st1
    | true => U st1 fun fl st2 => match fl with
      | .next => whT Tt U k st2 P
      | .cont => whT Tt U k st2 P
      | .brk => P .next st2
      | .ret v => P (.ret v) st2

theorem s_while {test : Expr} {body : List Stmt} {pos : Pos} {Tt : St → (Bool → St → Prop) → Prop} {U : St → (Fl → St → Prop) → Prop} (ht : SemT c n sc test Tt) (hb : SemB c n sc body U) :
    SemS c n sc (.While test body [] pos) (fun st P => ∃ k, whT Tt U k st P) := by
  intro A X F s st P Q rm ok g htt hq
  obtain ⟨k, hk⟩ := htt
  refine wpAny_While (codeAny_whileLoop (fun k s' => ∃ F' h' tk st', s' = { s with heap := h', toks := tk } ∧ Good c X F' h' st' ∧ Later F s.heap F' h' ∧ whT Tt U k st' P) ?_ k ⟨F, s.heap, s.toks, st, rfl, g, .refl _ _, hk⟩)
  rintro k s' ⟨F', h', tk, st', rfl, g', L', hT⟩
  cases k with
  | zero => exact hT.elim
  | succ k =>
    refine wpAny_mono (ht A X F' { s with heap := h', toks := tk } st' _ (fun b s₂ => if b = true then wpAny (model c.prog c.w) A (execs body X.env) (fun f s₃ => match f with
            | .next | .cont => ∃ m, m < k + 1 ∧ ∃ F' h' tk st', s₃ = { s with heap := h', toks := tk } ∧ Good c X F' h' st' ∧ Later F s.heap F' h' ∧ whT Tt U m st' P
            | .brk => Q .next s₃
            | .ret v => Q (.ret v) s₃) (fun _ _ => False) s₂ else Q .next s₂) rm ok g' hT ?_) (fun b s₂ x => ?_) fun _ _ e => e.elim
    · intro F₁ h₁ tk₁ x b st₁ g₁ L₁ rb hb₁
      subst rb
      cases x with
      | false => rw [if_neg (by simp)]; exact hq F₁ h₁ tk₁ .next .next st₁ g₁ (L'.trans L₁) rfl hb₁
      | true =>
        rw [if_pos rfl]
        refine hb A X F₁ { s with heap := h₁, toks := tk₁ } st₁ _ _ rm ok g₁ hb₁ fun F₂ h₂ tk₂ f fl st₂ g₂ L₂ rf hT₂ => ?_
        have L := (L'.trans L₁).trans L₂
        cases fl with
        | next => obtain rfl : f = .next := rf; exact ⟨k, Nat.lt_succ_self _, F₂, h₂, tk₂, st₂, rfl, g₂, L, hT₂⟩
        | cont => obtain rfl : f = .cont := rf; exact ⟨k, Nat.lt_succ_self _, F₂, h₂, tk₂, st₂, rfl, g₂, L, hT₂⟩
        | brk => obtain rfl : f = .brk := rf; exact hq F₂ h₂ tk₂ .next .next st₂ g₂ L rfl hT₂
        | ret v => obtain ⟨x, rfl, rx⟩ : ∃ x, f = .ret x ∧ _ := rf; exact hq F₂ h₂ tk₂ _ (.ret v) st₂ g₂ L ⟨x, rfl, rx⟩ hT₂
    · cases b with
      | false => simp only [Bool.false_eq_true, if_false] at x ⊢; exact wpAny_execs_nil x
      | true => simp only [if_true] at x ⊢; exact wpAny_mono x (fun f s₃ y => by cases f <;> exact y) fun _ _ e => e.elim
end
end Mine

namespace Mine

noncomputable def closureOf (env : Env) : List (Str × NameKind) → List (Str × Addr) → Option (List (Str × Addr))
  | [], acc => some acc
  | (n, k) :: r, acc => if k == .free then match env.cells.lookup n with
    | some a => closureOf env r ((n, a) :: acc)
    | none => none else closureOf env r acc

theorem cellOf_some {env : Env} {n : Str} {a : Addr} (q : env.cells.lookup n = some a) : cellOf env n = pure a := by
  show (match env.cells.lookup n with | some a => pure a | none => unsupported "internal:no-cell-for-name") = _
  rw [q]
theorem closure_walk {env : Env} (f : Str × NameKind → List (Str × Addr) → Sem (ForInStep (List (Str × Addr))))
    (hf : ∀ name kind cs, f (name, kind) cs = if kind == .free then (do let a ← cellOf env name; pure (.yield ((name, a) :: cs))) else pure (.yield cs)) :
    ∀ (names : List (Str × NameKind)) (acc cl : List (Str × Addr)), closureOf env names acc = some cl → forIn names acc f = pure cl
  | [], acc, cl, e => by rw [List.forIn_nil]; cases e; rfl
  | (n, k) :: r, acc, cl, e => by
    rw [List.forIn_cons, hf]
    unfold closureOf at e
    by_cases hk : (k == .free) = true
    · rw [if_pos hk] at e ⊢
      cases q : env.cells.lookup n with
      | none => rw [q] at e; cases e
      | some a =>
        rw [q] at e
        simp only [cellOf_some q, pure_bind]
        exact closure_walk f hf r _ cl e
    · rw [if_neg hk] at e ⊢
      simp only [pure_bind]
      exact closure_walk f hf r acc cl e
theorem closureFor_of {scope : Scope} {env : Env} {cl : List (Str × Addr)} (h : closureOf env scope.names [] = some cl) : closureFor scope env = pure cl := by
  unfold closureFor
  have := closure_walk (env := env) (fun x cs => if x.2 == .free then (do let a ← cellOf env x.1; pure (.yield ((x.1, a) :: cs))) else pure (.yield cs)) (fun name kind cs => rfl) _ _ _ h
  show (forIn scope.names [] _ >>= fun cs => pure cs) = _
  erw [this]
  rfl

theorem closureOf_some {env : Env} : ∀ (names : List (Str × NameKind)) (acc : List (Str × Addr)), (∀ x, (x, NameKind.free) ∈ names → ∃ a, env.cells.lookup x = some a) → ∃ cl, closureOf env names acc = some cl
  | [], acc, _ => ⟨acc, rfl⟩
  | (n, k) :: r, acc, h => by
    unfold closureOf
    by_cases hk : (k == .free) = true
    · rw [if_pos hk]
      have hk' : k = .free := by simpa using hk
      subst hk'
      obtain ⟨a, e⟩ := h n List.mem_cons_self
      rw [e]
      exact closureOf_some r _ fun x m => h x (List.mem_cons_of_mem _ m)
    · rw [if_neg hk]
      exact closureOf_some r _ fun x m => h x (List.mem_cons_of_mem _ m)

theorem closureOf_mem {env : Env} : ∀ (names : List (Str × NameKind)) (acc cl : List (Str × Addr)), closureOf env names acc = some cl → ∀ x a, (x, a) ∈ cl → (x, a) ∈ acc ∨ (env.cells.lookup x = some a ∧ (x, NameKind.free) ∈ names)
  | [], acc, cl, e, x, a, m => by cases e; exact .inl m
  | (n, k) :: r, acc, cl, e, x, a, m => by
    unfold closureOf at e
    by_cases hk : (k == .free) = true
    · rw [if_pos hk] at e
      have hk' : k = .free := by simpa using hk
      subst hk'
      cases q : env.cells.lookup n with
      | none => rw [q] at e; cases e
      | some b =>
        rw [q] at e
        rcases closureOf_mem r _ _ e x a m with h | h
        · rcases List.mem_cons.mp h with h | h
          · cases h; exact .inr ⟨q, List.mem_cons_self⟩
          · exact .inl h
        · exact .inr ⟨h.1, List.mem_cons_of_mem _ h.2⟩
    · rw [if_neg hk] at e
      rcases closureOf_mem r _ _ e x a m with h | h
      · exact .inl h
      · exact .inr ⟨h.1, List.mem_cons_of_mem _ h.2⟩
theorem closureOf_keys {env : Env} : ∀ (names : List (Str × NameKind)) (acc cl : List (Str × Addr)), closureOf env names acc = some cl → ∀ x, ((x, NameKind.free) ∈ names ∨ x ∈ acc.map (·.1)) → x ∈ cl.map (·.1)
  | [], acc, cl, e, x, m => by cases e; simpa using m
  | (n, k) :: r, acc, cl, e, x, m => by
    unfold closureOf at e
    by_cases hk : (k == .free) = true
    · rw [if_pos hk] at e
      cases q : env.cells.lookup n with
      | none => rw [q] at e; cases e
      | some b =>
        rw [q] at e
        refine closureOf_keys r _ _ e x ?_
        rcases m with m | m
        · rcases List.mem_cons.mp m with m | m
          · cases m; exact .inr (by simp)
          · exact .inl m
        · exact .inr (by simp [m])
    · rw [if_neg hk] at e
      refine closureOf_keys r _ _ e x ?_
      rcases m with m | m
      · rcases List.mem_cons.mp m with m | m
        · cases m; simp at hk
        · exact .inl m
      · exact .inr m

theorem lookup_of_key {α : Type} : ∀ {l : List (Str × α)} {x : Str}, x ∈ l.map (·.1) → ∃ a, l.lookup x = some a
  | [], x, m => by simp at m
  | (k, v) :: r, x, m => by
    rw [List.lookup_cons]
    cases hb : x == k with
    | true => exact ⟨v, rfl⟩
    | false =>
      refine lookup_of_key (l := r) ?_
      rcases List.mem_cons.mp m with m | m
      · rw [show x = k from m] at hb; simp at hb
      · exact m

theorem cellsFrom_split : ∀ (names : List (Str × NameKind)) (n : Nat) (acc : List (Str × Addr)), cellsFrom n names acc = cellsFrom n names [] ++ acc
  | [], _, _ => rfl
  | (x, k) :: r, n, acc => by
    unfold cellsFrom
    split
    · rw [cellsFrom_split r (n + 1) ((x, n) :: acc), cellsFrom_split r (n + 1) [(x, n)]]; simp
    · exact cellsFrom_split r n acc
theorem cellsFrom_mem : ∀ (names : List (Str × NameKind)) (n : Nat) (acc : List (Str × Addr)) (x : Str) (a : Addr), (x, a) ∈ cellsFrom n names acc → (x, a) ∈ acc ∨ (x, NameKind.cell) ∈ names
  | [], _, _, x, a, m => .inl m
  | (y, k) :: r, n, acc, x, a, m => by
    unfold cellsFrom at m
    by_cases hk : (k == .cell) = true
    · rw [if_pos hk] at m
      have hk' : k = .cell := by simpa using hk
      subst hk'
      rcases cellsFrom_mem r _ _ x a m with h | h
      · rcases List.mem_cons.mp h with h | h
        · cases h; exact .inr List.mem_cons_self
        · exact .inl h
      · exact .inr (List.mem_cons_of_mem _ h)
    · rw [if_neg hk] at m
      rcases cellsFrom_mem r _ _ x a m with h | h
      · exact .inl h
      · exact .inr (List.mem_cons_of_mem _ h)

theorem lookup_append {α : Type} : ∀ (l m : List (Str × α)) (x : Str), (l ++ m).lookup x = match l.lookup x with | some a => some a | none => m.lookup x
  | [], m, x => rfl
  | (k, v) :: r, m, x => by
    rw [List.cons_append, List.lookup_cons, List.lookup_cons]
    cases x == k with
    | true => rfl
    | false => exact lookup_append r m x

theorem lookup_nodup {α : Type} : ∀ {l : List (Str × α)} {x : Str} {a : α}, (l.map (·.1)).Nodup → (x, a) ∈ l → l.lookup x = some a
  | [], x, a, _, m => by cases m
  | (k, v) :: r, x, a, nd, m => by
    rw [List.lookup_cons]
    rw [List.map_cons, List.nodup_cons] at nd
    rcases List.mem_cons.mp m with m' | m'
    · cases m'; rw [beq_self_eq_true]
    · have : (x == k) = false := by
        simp only [beq_eq_false_iff_ne, ne_eq]
        rintro rfl
        exact nd.1 (List.mem_map.mpr ⟨(x, a), m', rfl⟩)
      rw [this]; exact lookup_nodup nd.2 m'

theorem lookup_relabel {env : Env} {k : NameKind} (hk : (k == .free) = false) : ∀ {names : List (Str × NameKind)} {x : Str}, names.lookup x = some k →
    (names.map fun (n, k) => if (k == NameKind.free && env.scope.kind == .function && env.kindOf n == some .cell) then (n, NameKind.cell) else (n, k)).lookup x = some k
  | [], _, h => by simp at h
  | (n, j) :: r, x, h => by
    have ih := @lookup_relabel env k hk r x
    show List.lookup x ((if (j == NameKind.free && env.scope.kind == .function && env.kindOf n == some .cell) = true then (n, NameKind.cell) else (n, j)) :: _) = _
    cases hx : x == n with
    | true =>
      simp only [List.lookup_cons, hx] at h
      cases h
      simp [List.lookup_cons, hx, hk]
    | false =>
      simp only [List.lookup_cons, hx] at h
      by_cases hc : (j == NameKind.free && env.scope.kind == .function && env.kindOf n == some .cell) = true
      · rw [if_pos hc]; simp only [List.lookup_cons, hx]; exact ih h
      · rw [if_neg hc]; simp only [List.lookup_cons, hx]; exact ih h
theorem lookup_relabel_free {env : Env} : ∀ {names : List (Str × NameKind)} {x : Str}, names.lookup x = some .free →
    (names.map fun (n, k) => if (k == NameKind.free && env.scope.kind == .function && env.kindOf n == some .cell) then (n, NameKind.cell) else (n, k)).lookup x = some .cell ∨
    (names.map fun (n, k) => if (k == NameKind.free && env.scope.kind == .function && env.kindOf n == some .cell) then (n, NameKind.cell) else (n, k)).lookup x = some .free
  | [], _, h => by simp at h
  | (n, j) :: r, x, h => by
    have ih := @lookup_relabel_free env r x
    show List.lookup x ((if (j == NameKind.free && env.scope.kind == .function && env.kindOf n == some .cell) = true then (n, NameKind.cell) else (n, j)) :: _) = _ ∨ List.lookup x ((if (j == NameKind.free && env.scope.kind == .function && env.kindOf n == some .cell) = true then (n, NameKind.cell) else (n, j)) :: _) = _
    cases hx : x == n with
    | true =>
      simp only [List.lookup_cons, hx] at h
      cases h
      by_cases hc : (NameKind.free == NameKind.free && env.scope.kind == .function && env.kindOf n == some .cell) = true
      · rw [if_pos hc]; simp [List.lookup_cons, hx]
      · rw [if_neg hc]; simp [List.lookup_cons, hx]
    | false =>
      simp only [List.lookup_cons, hx] at h
      by_cases hc : (j == NameKind.free && env.scope.kind == .function && env.kindOf n == some .cell) = true
      · rw [if_pos hc]; simp only [List.lookup_cons, hx]; exact ih h
      · rw [if_neg hc]; simp only [List.lookup_cons, hx]; exact ih h

theorem newCompEnv {M : Model} {A : Around} {E : Value → Shared → Prop} {s : Shared} {scope : Scope} {globals : Addr} {cl : List (Str × Addr)} {qual : Str} {outer : Env} {Q : Env → Shared → Prop}
    (hQ : ∀ env h', env = newEnv scope s.heap.objs.size globals (cellsFrom (s.heap.objs.size + 1) scope.names [] ++ cl) qual none .none (some outer) builtinsNs → 
      (∀ b o, s.heap.get? b = some o → h'.get? b = some o) → h'.Ns s.heap.objs.size (fun _ => none) → CellsOk h' (s.heap.objs.size + 1) (cellsFrom (s.heap.objs.size + 1) scope.names []) → Q env { s with heap := h' }) :
    wpAny M A (newFunctionEnv scope globals cl [] qual none .none (some outer)) Q E s := by
  simp only [newFunctionEnv, Option.isSome_some, if_true]
  refine wpAny_bind (wpAny_alloc ?_)
  refine wpAny_bind (wpAny_layCells _ (fun name kind cells => by cases hkc : kind == NameKind.cell <;> simp [hkc]) _ _ _ _ ?_)
  have ok := cellsFrom_ok scope.names (s.heap.push { cls := .type "dict", data := .dict #[] }) (s.heap.objs.size + 1) [] ⟨fun _ _ hm => (nomatch hm), List.Pairwise.nil⟩ (by rw [Heap.size_push]; exact Nat.le_refl _)
  rw [Heap.size_push] at ok
  rw [show ({ s with heap := s.heap.push { cls := .type "dict", data := .dict #[] } } : Shared).heap.objs.size = s.heap.objs.size + 1 from Heap.size_push ..]
  rw [cellsFrom_split]
  simp only [List.forIn_nil, pure_bind]
  refine wpAny_pure (hQ _ _ rfl (fun b o e => pushCells_keeps _ _ b o (Heap.get?_push_of_some _ e)) ((Heap.Ns.new s.heap (.type "dict")).keeps (pushCells_keeps _ _)) ok)

theorem codeAny_compLoop_any {prog : Program} {w : World} {A : Around} {R : Result → Shared → Prop} {s : Shared} {elt target iter : Expr} {ifs : List Expr} {scope : Scope} {pos : Pos} {it acc : Value} {env : Env} (I : Nat → Shared → Prop)
    (turn : ∀ n s, I n s → wpAny (model prog w) A (pyNext it) (fun r s₁ => match r with
      | none => R (.ok .next) s₁
      | some v => wpAny (model prog w) A (letOwnedTupleGo target it v) (fun _ s₁' => wpAny (model prog w) A (assign target env v) (fun _ s₂ =>
          wpAny (model prog w) A (forIn ifs true fun c r => if r = true then do let ok ← isTrue c env (eval c env); pure (ForInStep.yield ok) else pure (ForInStep.yield r)) (fun ok s₃ =>
            if ok = true then wpAny (model prog w) A (eval elt env) (fun x s₄ =>
              wpAny (model prog w) A (call (.builtin "list.append") [acc, x]) (fun _ s₅ => ∃ m, m < n ∧ I m s₅) (fun _ _ => False) s₄) (fun _ _ => False) s₃
            else ∃ m, m < n ∧ I m s₃) (fun _ _ => False) s₂) (fun _ _ => False) s₁') (fun _ _ => False) s₁) (fun _ _ => False) s)
    (n : Nat) (h : I n s) :
    codeAny (model prog w) A (.compLoop (.ListComp elt [⟨target, iter, ifs, 0⟩] scope pos) 0 it acc env) R s := by
  refine codeAny_loop rfl I (fun n s hI => ?_) n h
  show wpAny _ A ((compTurn (.ListComp elt [⟨target, iter, ifs, 0⟩] scope pos) 0 it acc env).onRaise (fun x => do noteFrame x env; theTreesLotGoes x)) _ _ s
  refine wpAny_noted ?_
  rw [compTurn_list]
  refine wpAny_mono (E := fun _ _ => False) ?_ (fun _ _ q => q) fun _ _ e => e.elim
  refine wpAny_bind (wpAny_standAt (wpAny_bind (wpAny_mono (turn n s hI) (fun r s₁ h₁ => ?_) fun _ _ h' => h')))
  cases r with
  | none => exact wpAny_pure h₁
  | some v =>
    refine wpAny_bind (wpAny_mono h₁ (fun _ s₁' h₁' => ?_) fun _ _ h' => h')
    refine wpAny_bind (wpAny_mono h₁' (fun _ s₂ h₂ => wpAny_bind (wpAny_mono h₂ (fun ok s₃ h₃ => ?_) fun _ _ h' => h')) fun _ _ h' => h')
    cases ok with
    | false => exact wpAny_pure ⟨rfl, h₃⟩
    | true =>
      exact wpAny_bind (wpAny_bind (wpAny_mono h₃ (fun x s₄ h₄ => wpAny_bind (wpAny_mono h₄ (fun _ s₅ h₅ => wpAny_pure (wpAny_pure ⟨rfl, h₅⟩)) fun _ _ h' => h')) fun _ _ h' => h'))

noncomputable def compT (as : It → St → (St → Prop) → Prop) (Tt : St → (Bool → St → Prop) → Prop) (U : St → (V → St → Prop) → Prop) : List It → List V → St → (List V → St → Prop) → Prop
  | [], acc, st, P => P acc st
  | it :: r, acc, st, P => as it st fun st1 => Tt st1 fun b st2 => match b with
    | true => U st2 fun v st3 => compT as Tt U r (acc ++ [v]) st3 P
    | false => compT as Tt U r acc st2 P

noncomputable def inner (names : List (Str × NameKind)) (st : St) : St :=
  { loc := fun y => if names.lookup y = some NameKind.free then st.loc y else none
    own := match st.own with
      | .lst x a l _ => if names.lookup x = some NameKind.free then .lst x a l false else .none
      | _ => .none
    g := st.g }

abbrev SemIfs (c : Cx) (n : Nat) (sc : List (Str × NameKind)) (ifs : List Expr) (T : St → (Bool → St → Prop) → Prop) : Prop :=
  Does c n sc (fun _ _ b v => v = b) (fun env => (forIn ifs true fun c r => if r = true then do let ok ← isTrue c env (eval c env); pure (ForInStep.yield ok) else pure (ForInStep.yield r) : Sem Bool)) T

section
variable {c : Cx} {n : Nat} {sc : List (Str × NameKind)}
theorem i_nil : SemIfs c n sc [] (fun st P => P true st) := fun A X F s st P Q rm ok g ht hq => wpAny_tests_nil (hq F s.heap s.toks true true st g (.refl _ _) rfl ht)
theorem i_one {t : Expr} {T : St → (Bool → St → Prop) → Prop} (h : SemT c n sc t T) : SemIfs c n sc [t] T := fun A X F s st P Q rm ok g ht hq => wpAny_tests_one (h A X F s st P Q rm ok g ht hq)

variable {X : Act} {F F' : Addr → Prop} {h h' hb : Heap} {st st' : St}

/-- the own list or dict of hb, seen later, is no address that was free at hb -/
theorem Good.ownKept (R : Good c X F hb st) (ok : ActOk c sc X) (k : ∀ a o, hb.get? a = some o → ¬ GM c a → h'.get? a = some o) {b : Addr} (hf : hb.get? b = none) :
    ∀ x, st.own.isAt x = true → ∀ u, Stored X.env h' x u → u ≠ .ref b := by
  intro x hx u su e
  have q := R.own
  cases ho : st.own with
  | none => rw [ho] at hx; cases hx
  | lst z a l wr =>
    rw [ho] at q hx
    obtain ⟨xs, s', _, _, _, _, p, _⟩ := q
    simp only [Own.isAt, beq_iff_eq] at hx
    subst hx
    have := stored_one su (s'.at (fun o q => k _ o q ok.Lgm) (fun y a l o q => k a o q (ok.cgm y a l).1))
    subst e; cases this
    obtain ⟨n, e⟩ := p; rw [hf] at e; cases e
  | dct z a ks =>
    rw [ho] at q hx
    obtain ⟨s', _, _, _, p, _⟩ := q
    simp only [Own.isAt, beq_iff_eq] at hx
    subst hx
    have := stored_one su (s'.at (fun o q => k _ o q ok.Lgm) (fun y a l o q => k a o q (ok.cgm y a l).1))
    subst e; cases this
    obtain ⟨⟨o, _, _, e, _⟩, _⟩ := p; rw [hf] at e; cases e

theorem comp_core {elt target iter : Expr} {ifs : List Expr} {scope : Scope} {pos : Pos} {as : It → St → (St → Prop) → Prop} {TI : St → (List It → St → Prop) → Prop} {Tt : St → (Bool → St → Prop) → Prop} {Te : St → (V → St → Prop) → Prop}
    (ht : Tgt scope.names target as) (hi : SemI c n sc target iter TI) (hif : SemIfs c n scope.names ifs Tt) (he : SemE c n scope.names elt Te)
    (hk : scope.kind = .function) (hnd : (scope.names.map (·.1)).Nodup) (hfree : ∀ x, (x, NameKind.free) ∈ scope.names → sc.lookup x = some .cell ∨ sc.lookup x = some .free)
    {A : Around} {X : Act} {F : Addr → Prop} {s : Shared} {st : St} {P : V → St → Prop} {RR : Value → Addr → Result → Shared → Prop} {cl : List (Str × Addr)} (rm : Room A n) (ok : ActOk c sc X) (g : Good c X F s.heap st)
    (hcl : closureOf X.env scope.names [] = some cl)
    (hT : TI st fun l st1 => compT as Tt Te l [] (inner scope.names st1) fun acc st2 => P (.lst acc) { st1 with g := st2.g })
    (hRR : ∀ F' hb h' tk D C oC r st', Free c X hb [C] → Good c (X.pin [(C, oC)]) F' h' st' → Later F s.heap F' h' → Rep c.ad F' h' r (.ref D) → (∃ m, h'.Ns C m) → P r st' → RR (.ref D) C (.ok .next) { s with heap := h', toks := tk }) :
    wpAny (model c.prog c.w) A (eval iter X.env) (fun x s₁ => wpAny (model c.prog c.w) A (pyIter x) (fun it s₂ => wpAny (model c.prog c.w) A (newList []) (fun acc s₃ =>
      wpAny (model c.prog c.w) A (newFunctionEnv scope X.env.globals cl [] X.env.qual none .none (some X.env)) (fun cenv s₄ =>
        codeAny (model c.prog c.w) A (.compStart (.ListComp elt [⟨target, iter, ifs, 0⟩] scope pos) 0 it acc { cenv with scope := relabel scope X.env }) (RR acc cenv.locals) s₄) (fun _ _ => False) s₃) (fun _ _ => False) s₂) (fun _ _ => False) s₁) (fun _ _ => False) s := by
  refine hi A X F s st _ _ rm ok g hT ?_
  intro F₁ hb h₂ tk₂ I fp wr fr l st₁ Md St g₁ up L₁ W st0 hP
  refine wpAny_newObj_type (newCompEnv fun cenv h₄ hcenv up4 nsC cok => ?_)
  dsimp only at up4 nsC cok hcenv
  generalize hH2 : h₂.push { cls := .type "list", dict := none, data := .seq ([] : List Value).toArray } = H2 at hcenv up4 nsC cok
  have hC : H2.objs.size = h₂.objs.size + 1 := by rw [← hH2, Heap.size_push]
  -- names for the new places
  obtain ⟨D, hD⟩ : ∃ D, D = h₂.objs.size := ⟨_, rfl⟩
  obtain ⟨C, hCe⟩ : ∃ C, C = H2.objs.size := ⟨_, rfl⟩
  rw [← hCe] at hcenv nsC cok
  have hcl' : cenv.locals = C := by rw [hcenv]; rfl
  obtain ⟨env', henv'⟩ : ∃ e : Env, e = { cenv with scope := relabel scope X.env } := ⟨_, rfl⟩
  rw [← henv', hcl', ← hD]
  have up2 : ∀ b o, h₂.get? b = some o → h₄.get? b = some o := fun b o e => up4 b o (hH2 ▸ Heap.get?_push_of_some _ e)
  have upb : ∀ b o, hb.get? b = some o → h₄.get? b = some o := fun b o e => up2 b o (up b o e)
  have hDl : ∃ m, h₄.get? D = some { cls := .type "list", data := .seq ([] : List Value).toArray m } := ⟨0, up4 _ _ (by rw [hD, ← hH2]; exact Heap.get?_push_size _ rfl)⟩
  have new : ∀ a, h₂.objs.size ≤ a → hb.get? a = none := fun a ha => by
    cases e : hb.get? a with
    | none => rfl
    | some o => exact absurd (Heap.lt_size (up a o e)) (Nat.not_lt.mpr ha)
  have fr2 : ∀ b ∈ fr, b < h₂.objs.size := fun b hm => let ⟨o, e⟩ := W.there 0 h₂ st0 b hm; Heap.lt_size e
  have hD0 : hb.get? D = none := new _ (by rw [hD]; exact Nat.le_refl _)
  have hC0 : hb.get? C = none := new _ (by rw [hCe, hC]; exact Nat.le_succ _)
  have hDC : D ≠ C := by rw [hD, hCe, hC]; exact Nat.ne_of_lt (Nat.lt_succ_self _)
  have fC : ∀ b ∈ D :: fr, b ≠ C := fun b hm => by
    rcases List.mem_cons.mp hm with rfl | hm
    · exact hDC
    · have := fr2 b hm; rw [hCe, hC]; exact Nat.ne_of_lt (Nat.lt_succ_of_lt this)
  have frn : ∀ b ∈ D :: fr, hb.get? b = none := fun b hm => by
    rcases List.mem_cons.mp hm with rfl | hm
    · exact hD0
    · exact W.fresh b hm
  have gmn : ∀ a, hb.get? a = none → ¬ GM c a := fun a e m => by obtain ⟨o, q⟩ := g₁.g.there a m; rw [e] at q; cases q
  -- the inner frame
  have elocals : env'.locals = C := by rw [henv']; exact hcl'
  have escope : env'.scope = relabel scope X.env := by rw [henv']
  have ecells : env'.cells = cellsFrom (C + 1) scope.names [] ++ cl := by rw [henv', hcenv]; rfl
  have clmem : ∀ x a, (x, a) ∈ cl → X.env.cells.lookup x = some a ∧ (x, NameKind.free) ∈ scope.names := fun x a m => (closureOf_mem _ _ _ hcl x a m).elim (fun h => nomatch h) id
  have ncell : ∀ x a, env'.cells.lookup x = some a → (((x, a) ∈ cellsFrom (C + 1) scope.names []) ∧ C < a ∧ h₄.IsCell a none) ∨ (X.env.cells.lookup x = some a) := fun x a l => by
    rw [ecells, lookup_append] at l
    cases q : (cellsFrom (C + 1) scope.names []).lookup x with
    | some b => rw [q] at l; cases l; have m := mem_of_lookup q; exact .inl ⟨m, (cok.empty _ _ m).2, (cok.empty _ _ m).1⟩
    | none => rw [q] at l; exact .inr (clmem _ _ (mem_of_lookup l)).1
  have hcn : ∀ a, C < a → hb.get? a = none := fun a ha => by
    have h3 : (C : Nat) = h₂.objs.size + 1 := by rw [hCe, hC]
    have h4 : (C : Nat) < a := ha
    exact new a (show h₂.objs.size ≤ (a : Nat) by lia)
  have hfl : ∀ x, scope.names.lookup x = some NameKind.free → ∃ a, X.env.cells.lookup x = some a ∧ env'.cells.lookup x = some a ∧ (X.env.kindOf x = some .cell ∨ X.env.kindOf x = some .free) := fun x hx => by
    have hm := mem_of_lookup hx
    have hk' : (X.env.kindOf x = some .cell ∨ X.env.kindOf x = some .free) := by
      rcases hfree x hm with e | e
      · exact .inl (ok.cell x e).1
      · exact (ok.free x e).1
    obtain ⟨a, ha⟩ := lookup_of_key (closureOf_keys _ _ _ hcl x (.inl hm))
    have hax := (clmem _ _ (mem_of_lookup ha)).1
    refine ⟨a, hax, ?_, hk'⟩
    rw [ecells, lookup_append]
    cases q : (cellsFrom (C + 1) scope.names []).lookup x with
    | none => exact ha
    | some b =>
      rcases cellsFrom_mem _ _ _ _ _ (mem_of_lookup q) with m | m
      · cases m
      · rw [lookup_nodup hnd m] at hx; cases hx
  let X' : Act := { env := env', h₀ := hb, F₀ := F₁, pins := [] }
  have gns := g₁.ns
  have ok' : ActOk c scope.names X' := {
    kind := by show env'.scope.kind = _; rw [escope]; exact hk
    glob := by show env'.globals = _; rw [henv', hcenv]; exact ok.glob
    blt := by show env'.builtins = _; rw [henv', hcenv]; exact ok.blt
    loc := fun x hx => by show env'.scope.names.lookup x = _; rw [escope]; exact lookup_relabel rfl hx
    gl := fun x hx => by show env'.scope.names.lookup x = _; rw [escope]; exact lookup_relabel rfl hx
    cell := fun x hx => by
      refine ⟨by show env'.scope.names.lookup x = _; rw [escope]; exact lookup_relabel rfl hx, ?_⟩
      obtain ⟨a, ha⟩ := Option.isSome_iff_exists.mp (cellsFrom_some (x := x) scope.names (C + 1) [] (.inl hx))
      refine ⟨a, ?_, hcn a (cok.empty _ _ (mem_of_lookup ha)).2⟩
      show env'.cells.lookup x = _
      rw [ecells, lookup_append, ha]
    free := fun x hx => by
      obtain ⟨a, _, ha, _⟩ := hfl x hx
      refine ⟨?_, a, ha⟩
      show env'.scope.names.lookup x = _ ∨ env'.scope.names.lookup x = _
      rw [escope]; exact lookup_relabel_free hx
    inj := fun x y a hx hy => by
      rcases ncell x a hx with ⟨m, lt, _⟩ | q <;> rcases ncell y a hy with ⟨m', lt', _⟩ | q'
      · exact name_of_addr cok.apart m m'
      · obtain ⟨⟨v, o, e, _⟩, _⟩ := g₁.cells y a q'; rw [hcn a lt] at e; cases e
      · obtain ⟨⟨v, o, e, _⟩, _⟩ := g₁.cells x a q; rw [hcn a lt'] at e; cases e
      · exact ok.inj x y a q q'
    Lnew := by show hb.get? env'.locals = none; rw [elocals]; exact hC0
    Lgm := by show ¬ GM c env'.locals; rw [elocals]; exact gmn _ hC0
    cgm := fun x a hx => by
      show ¬ GM c a ∧ a ≠ env'.locals
      rw [elocals]
      rcases ncell x a hx with ⟨m, lt, _⟩ | q
      · exact ⟨gmn _ (hcn a lt), Nat.ne_of_gt lt⟩
      · exact ⟨(ok.cgm x a q).1, by rintro rfl; obtain ⟨⟨v, o, e, _⟩, _⟩ := g₁.cells x _ q; rw [hC0] at e; cases e⟩
    pin := fun p hp => by cases hp }
  have fre' : Free c X' hb (D :: fr) := {
    loc := fun b hm => by show b ≠ env'.locals; rw [elocals]; exact fC b hm
    gm := fun b hm => gmn _ (frn b hm)
    cell := fun b hm x a hx => by
      rintro rfl
      rcases ncell x b hx with ⟨m, lt, _⟩ | q
      · have h3 : (C : Nat) = h₂.objs.size + 1 := by rw [hCe, hC]
        have hb' : (b : Nat) ≤ h₂.objs.size := by
          rcases List.mem_cons.mp hm with rfl | hm
          · rw [hD]; exact Nat.le_refl _
          · exact Nat.le_of_lt (fr2 b hm)
        have lt' : (C : Nat) < b := lt
        rw [h3] at lt'
        exact absurd (Nat.lt_of_lt_of_le lt' hb') (by lia)
      · obtain ⟨⟨v, o, e, _⟩, _⟩ := g₁.cells x b q; rw [frn b hm] at e; cases e
    old := fun b hm => frn b hm
    pin := fun p hp => by cases hp }
  have L₂ : Later F₁ hb F₁ h₄ := Later.keepAll upb
  have okp : ∀ h, ActOk c scope.names (X'.pin (snap h (D :: fr))) := fun h => ok'.pinned (hb := hb) fre' fun p hp => (mem_snap.mp hp).1
  have g₄ : Good c X' F₁ h₄ (inner scope.names st₁) := {
    stat := g₁.stat.later L₂
    g := g₁.g.same L₂ (fun a _ o e => upb a o e) g₁.g.nf
    froz := fun a f => by obtain ⟨o, e⟩ := g₁.froz a f; exact ⟨o, upb _ _ e⟩
    fnew := fun a f => .inl f
    kept := fun a o e _ => upb a o e
    ns := ⟨_, by show h₄.Ns env'.locals _; rw [elocals]; exact nsC⟩
    LF := fun f => by obtain ⟨o, e⟩ := g₁.froz _ f; have e' : hb.get? env'.locals = some o := e; rw [elocals, hC0] at e'; cases e'
    cells := fun x a hx => by
      rcases ncell x a hx with ⟨m, lt, ce⟩ | q
      · exact ⟨⟨_, ce⟩, fun f => by obtain ⟨o, e⟩ := g₁.froz _ f; rw [hcn a lt] at e; cases e⟩
      · obtain ⟨⟨v, o, e, d⟩, nf⟩ := g₁.cells x a q; exact ⟨⟨v, o, upb _ _ e, d⟩, nf⟩
    pins := fun p hp => by cases hp
    loc := fun x v e => by
      by_cases hx : scope.names.lookup x = some NameKind.free
      · have e' : st₁.loc x = some v := by simpa [inner, hx] using e
        obtain ⟨u, S, r⟩ := g₁.loc x v e'
        obtain ⟨a, h1, h2, h3⟩ := hfl x hx
        refine ⟨u, .inr ⟨(ok'.free x hx).1, a, h2, ?_⟩, r.later L₂⟩
        rcases S with ⟨k, _⟩ | ⟨_, b, l, o, e, d⟩
        · rw [k] at h3; rcases h3 with h3 | h3 <;> cases h3
        · rw [h1] at l; cases l; exact ⟨o, upb _ _ e, d⟩
      · simp [inner, hx] at e
    own := by
      show OwnOk c X' F₁ h₄ (match st₁.own with
        | .lst x a l _ => if scope.names.lookup x = some NameKind.free then .lst x a l false else .none
        | _ => .none)
      have q := g₁.own
      cases ho : st₁.own with
      | none => trivial
      | dct x a ks => trivial
      | lst x a l' wr' =>
        dsimp only
        by_cases hx : scope.names.lookup x = some NameKind.free
        · rw [if_pos hx]
          rw [ho] at q
          obtain ⟨xs, S, nf, ng, nL, nc, p, r, z, pn, w⟩ := q
          obtain ⟨b, h1, h2, h3⟩ := hfl x hx
          have ha : hb.get? a ≠ none := by obtain ⟨m, e⟩ := p; rw [e]; simp
          refine ⟨xs, .inr ⟨(ok'.free x hx).1, b, h2, ?_⟩, nf, ng, ?_, ?_, p.at fun o e => upb _ _ e, r.later L₂, z, (fun p hp => by cases hp), fun e => by cases e⟩
          · rcases S with ⟨k, _⟩ | ⟨_, b', l, o, e, d⟩
            · rw [k] at h3; rcases h3 with h3 | h3 <;> cases h3
            · rw [h1] at l; cases l; exact ⟨o, upb _ _ e, d⟩
          · show a ≠ env'.locals; rw [elocals]; rintro rfl; exact ha hC0
          · intro y b' hy
            rcases ncell y b' hy with ⟨m, lt, ce⟩ | q
            · rintro rfl; exact ha (hcn _ lt)
            · exact nc y b' q
        · rw [if_neg hx]; trivial
    noloc := fun x hx => by
      show (if scope.names.lookup x = some NameKind.free then st₁.loc x else none) = none
      by_cases hf : scope.names.lookup x = some NameKind.free
      · rw [if_pos hf]
        refine g₁.noloc x ?_
        have hx' : (match st₁.own with
          | .lst x a l _ => if scope.names.lookup x = some NameKind.free then Own.lst x a l false else .none
          | _ => .none).isAt x = true := hx
        cases ho : st₁.own with
        | none => rw [ho] at hx'; cases hx'
        | dct y a ks => rw [ho] at hx'; cases hx'
        | lst y a l' wr' =>
          rw [ho] at hx'
          dsimp only at hx'
          by_cases hy : scope.names.lookup y = some NameKind.free
          · rw [if_pos hy] at hx'; exact hx'
          · rw [if_neg hy] at hx'; cases hx'
      · rw [if_neg hf] }
  have nF₀ : ∀ b ∈ D :: fr, ¬ F₁ b := fun b hm f => by obtain ⟨o, e⟩ := g₁.froz b f; rw [frn b hm] at e; cases e
  have nO₀ : ∀ b ∈ D :: fr, ∀ x, (inner scope.names st₁).own.isAt x = true → ∀ u, Stored X'.env h₄ x u → u ≠ .ref b := fun b hm x hx u su e => by
    have q := g₄.own
    have hx' := hx
    cases ho : (inner scope.names st₁).own with
    | none => rw [ho] at hx; cases hx
    | dct y a ks =>
      exfalso
      have ho' : (match st₁.own with
          | .lst x a l _ => if scope.names.lookup x = some NameKind.free then Own.lst x a l false else .none
          | _ => .none) = .dct y a ks := ho
      cases hq : st₁.own with
      | none => rw [hq] at ho'; cases ho'
      | dct _ a _ => rw [hq] at ho'; cases ho'
      | lst y' a l' wr' => rw [hq] at ho'; dsimp only at ho'; split at ho' <;> cases ho'
    | lst y a l' wr' =>
      -- the list stood at hb
      have ho' : (match st₁.own with
          | .lst x a l _ => if scope.names.lookup x = some NameKind.free then Own.lst x a l false else .none
          | _ => .none) = .lst y a l' wr' := ho
      cases hq : st₁.own with
      | none => rw [hq] at ho'; cases ho'
      | dct _ a _ => rw [hq] at ho'; cases ho'
      | lst y' a l'' wr'' =>
        rw [hq] at ho'
        dsimp only at ho'
        by_cases hy : scope.names.lookup y' = some NameKind.free
        · rw [if_pos hy] at ho'
          cases ho'
          rw [ho] at hx
          simp only [Own.isAt, beq_iff_eq] at hx
          subst hx
          have Q := g₁.own
          rw [hq] at Q
          obtain ⟨xs, S, nf, ng, nL, nc, p, r, z, pn, w⟩ := Q
          obtain ⟨b', h1, h2, h3⟩ := hfl _ hy
          have su' : Stored X'.env h₄ _ (.ref a) := .inr ⟨(ok'.free _ hy).1, b', h2, by
            rcases S with ⟨k, _⟩ | ⟨_, b'', l, o, e, d⟩
            · rw [k] at h3; rcases h3 with h3 | h3 <;> cases h3
            · rw [h1] at l; cases l; exact ⟨o, upb _ _ e, d⟩⟩
          have := stored_one su su'
          subst e; cases this
          obtain ⟨m, e⟩ := p; rw [frn b hm] at e; cases e
        · rw [if_neg hy] at ho'; cases ho'
  have there4 : ∀ h', St 0 h' → True := fun _ _ => trivial
  have start : Good c (X'.pin (snap h₄ (D :: fr))) F₁ h₄ (inner scope.names st₁) := g₄.repin fre' nF₀ nO₀ fun p hp => mem_snap.mp hp
  have hst4 : St 0 h₄ := W.turns.frame _ _ _ st0 fun b _ o e => up2 b o e
  have isub : ∀ b ∈ wr, b ∈ D :: fr := fun b hm => List.mem_cons_of_mem _ (W.sub b hm)
  have Dfp : D ∉ fp := fun hm => by
    rcases W.froz D hm with f | f
    · exact nF₀ D List.mem_cons_self f
    · have := fr2 D f; rw [hD] at this; exact Nat.lt_irrefl _ this
  have Dwr : D ∉ wr := fun hm => Dfp (W.turns.sub D hm)
  have loop : codeAny (model c.prog c.w) A (.compLoop (.ListComp elt [⟨target, iter, ifs, 0⟩] scope pos) 0 (.ref I) (.ref D) env') (RR (.ref D) C) { s with heap := h₄, toks := tk₂ } := by
    refine codeAny_compLoop_any
      (fun k s' => ∃ F' h' tk st' i acc xs, s' = { s with heap := h', toks := tk } ∧ St i h' ∧ PLst h' D xs ∧ RepL c.ad F' h' acc xs ∧ acc.length ≤ i ∧ Good c (X'.pin (snap h' (D :: fr))) F' h' st' ∧ Later F₁ hb F' h' ∧
        compT as Tt Te (l.drop i) acc st' (fun acc st2 => P (.lst acc) { st₁ with g := st2.g }) ∧ i ≤ l.length ∧ k = l.length + 1 - i) ?_ (l.length + 1)
      ⟨F₁, h₄, tk₂, _, 0, [], [], rfl, hst4, hDl, rfl, Nat.le_refl _, start, L₂, hP, Nat.zero_le _, rfl⟩
    rintro k s' ⟨F', h', tk, st', i, acc, xs, rfl, hst', hDx, hacc, hlen, g', L', hT, hi, rfl⟩
    have gX := g'.unpin
    have there : ∀ i h, St i h → (∃ xs, PLst h D xs) → ∀ b ∈ D :: fr, ∃ o, h.get? b = some o := fun i h st ⟨xs, m, e⟩ b hm => by
      rcases List.mem_cons.mp hm with rfl | hm
      · exact ⟨_, e⟩
      · exact W.there i h st b hm
    have nF : ∀ b ∈ D :: fr, ¬ F' b := fun b hm f => by
      obtain ⟨o, e⟩ := there i h' hst' ⟨_, hDx⟩ b hm
      exact (g'.pins (b, o) (List.mem_append_left _ (mem_snap.mpr ⟨hm, e⟩))).2 f
    have nO : ∀ b ∈ D :: fr, ∀ x, st'.own.isAt x = true → ∀ u, Stored X'.env h' x u → u ≠ .ref b := fun b hm x hx u su => by
      obtain ⟨o, e⟩ := there i h' hst' ⟨_, hDx⟩ b hm
      exact g'.ownPin (b, o) (mem_snap.mpr ⟨hm, e⟩) x hx u su
    have offO : ∀ (wr' : List Addr) (hw : ∀ b ∈ wr', b ∈ D :: fr) (h₅ : Heap) (hk : ∀ b o, b ∉ wr' → h'.get? b = some o → h₅.get? b = some o), ∀ b ∈ D :: fr, ∀ x, st'.own.isAt x = true → ∀ u, Stored X'.env h₅ x u → u ≠ .ref b := fun wr' hw h₅ hk b hm x hx u su e => by
      have q := gX.own
      cases ho : st'.own with
      | none => rw [ho] at hx; cases hx
      | lst z a l' wr'' =>
        rw [ho] at q hx
        obtain ⟨xs, s', _, _, _, _, p, _⟩ := q
        simp only [Own.isAt, beq_iff_eq] at hx
        subst hx
        have s'' := s'.at (h' := h₅) (fun o q => hk _ o (fun m => fre'.loc _ (hw _ m) rfl) q) (fun y a l o q => hk a o (fun m => fre'.cell _ (hw _ m) y a l rfl) q)
        have := stored_one su s''
        subst e; cases this
        exact nO _ hm z (by rw [ho]; simp [Own.isAt]) _ s' rfl
      | dct z a ks =>
        rw [ho] at q hx
        obtain ⟨s', _, _, _, p, _⟩ := q
        simp only [Own.isAt, beq_iff_eq] at hx
        subst hx
        have s'' := s'.at (h' := h₅) (fun o q => hk _ o (fun m => fre'.loc _ (hw _ m) rfl) q) (fun y a l o q => hk a o (fun m => fre'.cell _ (hw _ m) y a l rfl) q)
        have := stored_one su s''
        subst e; cases this
        exact nO _ hm z (by rw [ho]; simp [Own.isAt]) _ s' rfl
    by_cases hlt : i < l.length
    · refine W.turns.item i _ _ _ hlt hst' fun v h₃ tk₃ hMd hk₃ => ?_
      refine W.turns.go i v _ _ _ hMd fun h₅ hP₅ hst₅ hk₅ => ?_
      have hk : ∀ b o, b ∉ wr → h'.get? b = some o → h₅.get? b = some o := fun b o q e => hk₅ b o q (hk₃ b o q e)
      obtain ⟨g₅, L₅⟩ := gX.off fre' isub nF nO hk
      have gp₅ := g₅.repin fre' nF (offO wr isub h₅ hk) (ps := snap h₅ (D :: fr)) fun p hp => mem_snap.mp hp
      obtain ⟨it, hit, ri⟩ := hP₅ F' (L'.trans L₅)
      rw [show l.drop i = it :: l.drop (i + 1) by rw [List.drop_eq_getElem_cons hlt]; rw [List.getElem?_eq_getElem hlt] at hit; cases hit; rfl] at hT
      have hD₅ : PLst h₅ D xs := hDx.at fun o e => hk D o Dwr e
      have there₅ := there (i + 1) h₅ hst₅ ⟨_, hD₅⟩
      refine assign_tgt ht (X := X'.pin (snap h₅ (D :: fr))) (s := { s with heap := h₅, toks := tk₃ }) rm.h (okp h₅) gp₅ ri hT fun h₆ tk₆ st₆ g₆ L₆ hU => ?_
      -- what stands after any step in the pinned frame
      have back : ∀ {F₇ : Addr → Prop} {h₇ : Heap} {st₇ : Mine.St}, Good c (X'.pin (snap h₅ (D :: fr))) F₇ h₇ st₇ → Later F' h₅ F₇ h₇ → St (i + 1) h₇ ∧ PLst h₇ D xs ∧ Good c (X'.pin (snap h₇ (D :: fr))) F₇ h₇ st₇ := fun {F₇ h₇ st₇} g₇ L₇ => by
        have pk : ∀ b ∈ D :: fr, ∀ o, h₅.get? b = some o → h₇.get? b = some o := fun b hm o e => (g₇.pins (b, o) (List.mem_append_left _ (mem_snap.mpr ⟨hm, e⟩))).1
        refine ⟨W.turns.frame _ _ _ hst₅ fun b hm o e => ?_, hD₅.at fun o e => pk D List.mem_cons_self o e, ?_⟩
        · rcases W.froz b hm with f | f
          · exact L₇.2 b o (L₅.1 b (L'.1 b f)) e
          · exact pk b (List.mem_cons_of_mem _ f) o e
        · refine g₇.unpin.repin fre' (fun b hm f => ?_) (fun b hm x hx u su => ?_) (ps := snap h₇ (D :: fr)) fun p hp => mem_snap.mp hp
          · obtain ⟨o, e⟩ := there₅ b hm
            exact (g₇.pins (b, o) (List.mem_append_left _ (mem_snap.mpr ⟨hm, e⟩))).2 f
          · obtain ⟨o, e⟩ := there₅ b hm
            exact g₇.ownPin (b, o) (mem_snap.mpr ⟨hm, e⟩) x hx u su
      refine hif A (X'.pin (snap h₅ (D :: fr))) F' { s with heap := h₆, toks := tk₆ } st₆ _ _ rm (okp h₅) g₆ hU fun F₇ h₇ tk₇ b' b st₇ g₇ L₇ rb hT₇ => ?_
      subst rb
      cases b' with
      | false =>
        rw [if_neg (by simp)]
        obtain ⟨a1, a2, a3⟩ := back g₇ (L₆.trans L₇)
        have L8 := ((L'.trans L₅).trans L₆).trans L₇
        refine ⟨l.length + 1 - (i + 1), by lia, F₇, h₇, tk₇, st₇, i + 1, acc, xs, rfl, a1, a2, hacc.later ((L₅.trans L₆).trans L₇), by lia, a3, L8, hT₇, hlt, rfl⟩
      | true =>
        rw [if_pos rfl]
        refine he A (X'.pin (snap h₅ (D :: fr))) F₇ { s with heap := h₇, toks := tk₇ } st₇ _ _ rm (okp h₅) g₇ hT₇ fun F₈ h₈ tk₈ x v₈ st₈ g₈ L₈ r₈ hT₈ => ?_
        obtain ⟨a1, a2, a3⟩ := back g₈ ((L₆.trans L₇).trans L₈)
        obtain ⟨m, e8⟩ := a2
        have hz : acc.length ≤ sizeLine := Nat.le_trans hlen (Nat.le_trans hi W.size)
        have hacc8 : RepL c.ad F₈ h₈ acc xs := hacc.later (((L₅.trans L₆).trans L₇).trans L₈)
        refine append_at (s := { s with heap := h₈, toks := tk₈ }) (hsz := by rw [List.size_toArray, ← hacc8.length]; exact hz) e8 fun h₉ hs₉ hD₉ => ?_
        have nF8 : ∀ b ∈ D :: fr, ¬ F₈ b := fun b hm f => by
          obtain ⟨o, e⟩ := there (i + 1) h₈ a1 ⟨_, m, e8⟩ b hm
          exact (a3.pins (b, o) (List.mem_append_left _ (mem_snap.mpr ⟨hm, e⟩))).2 f
        have nO8 : ∀ b ∈ D :: fr, ∀ x, st₈.own.isAt x = true → ∀ u, Stored X'.env h₈ x u → u ≠ .ref b := fun b hm x hx u su => by
          obtain ⟨o, e⟩ := there (i + 1) h₈ a1 ⟨_, m, e8⟩ b hm
          exact a3.ownPin (b, o) (mem_snap.mpr ⟨hm, e⟩) x hx u su
        have hk9 : ∀ b o, b ∉ [D] → h₈.get? b = some o → h₉.get? b = some o := fun b o q e => (hs₉.2 b (by simpa using q)).trans e
        have hw9 : ∀ b ∈ [D], b ∈ D :: fr := fun b hm => by rw [List.mem_singleton.mp hm]; exact List.mem_cons_self
        obtain ⟨g₉, L₉⟩ := a3.unpin.off fre' hw9 nF8 nO8 hk9
        have nO9 : ∀ b ∈ D :: fr, ∀ x, st₈.own.isAt x = true → ∀ u, Stored X'.env h₉ x u → u ≠ .ref b := fun b hm x hx u su e => by
          have q := a3.own
          cases ho : st₈.own with
          | none => rw [ho] at hx; cases hx
          | lst z a l' wr'' =>
            rw [ho] at q hx
            obtain ⟨xs, s', _, _, _, _, p, _⟩ := q
            simp only [Own.isAt, beq_iff_eq] at hx
            subst hx
            have s'' := s'.at (h' := h₉) (fun o q => hk9 _ o (fun m => fre'.loc _ (hw9 _ m) rfl) q) (fun y a l o q => hk9 a o (fun m => fre'.cell _ (hw9 _ m) y a l rfl) q)
            have := stored_one (X := X') su s''
            subst e; cases this
            exact nO8 _ hm z (by rw [ho]; simp [Own.isAt]) _ s' rfl
          | dct z a ks =>
            rw [ho] at q hx
            obtain ⟨s', _, _, _, p, _⟩ := q
            simp only [Own.isAt, beq_iff_eq] at hx
            subst hx
            have s'' := s'.at (h' := h₉) (fun o q => hk9 _ o (fun m => fre'.loc _ (hw9 _ m) rfl) q) (fun y a l o q => hk9 a o (fun m => fre'.cell _ (hw9 _ m) y a l rfl) q)
            have := stored_one (X := X') su s''
            subst e; cases this
            exact nO8 _ hm z (by rw [ho]; simp [Own.isAt]) _ s' rfl
        have hst9 : St (i + 1) h₉ := W.turns.frame _ _ _ a1 fun b hm o e => hk9 b o (fun q => Dfp (by rw [List.mem_singleton.mp q] at hm; exact hm)) e
        refine ⟨l.length + 1 - (i + 1), by lia, F₈, h₉, tk₈, st₈, i + 1, acc ++ [v₈], xs ++ [x], rfl, hst9, ⟨m + 1, by rw [hD₉]; simp⟩, ((hacc8.append (RepL.one r₈)).later L₉), by simp; lia, g₉.repin fre' nF8 nO9 fun p hp => mem_snap.mp hp, ((((L'.trans L₅).trans L₆).trans L₇).trans L₈).trans L₉, hT₈, hlt, rfl⟩
    · obtain rfl : i = l.length := by lia
      refine W.turns.done _ _ _ hst' fun h₃ tk₃ hk₃ => ?_
      obtain ⟨g₃, L₃⟩ := gX.off fre' isub nF nO hk₃
      rw [List.drop_length] at hT
      have hD₃ : PLst h₃ D xs := hDx.at fun o e => hk₃ D o Dwr e
      -- back to the outer frame
      have kept : ∀ a o, hb.get? a = some o → ¬ GM c a → h₃.get? a = some o := g₃.kept
      have Lf : Later F' h₃ (fun a => F' a ∨ a = D) h₃ := ⟨fun a f => .inl f, fun a o _ e => e⟩
      have Lb : Later F₁ hb (fun a => F' a ∨ a = D) h₃ := (L'.trans L₃).trans Lf
      have hg : GRep c (fun a => F' a ∨ a = D) h₃ st'.g := g₃.g.same Lf (fun a _ o e => e) fun a f => f.elim (g₃.g.nf a) fun e => by rw [e]; exact gmn _ hD0
      have gout : Good c X (fun a => F' a ∨ a = D) h₃ { st₁ with g := st'.g } := g₁.move Lb hg (fun a f => by
        rcases f with f | rfl
        · exact g₃.froz a f
        · obtain ⟨m, e⟩ := hD₃; exact ⟨_, e⟩) (fun a f => by
        rcases f with f | rfl
        · exact g₃.fnew a f
        · exact .inr hD0) kept ok
      obtain ⟨mC, nsC'⟩ := g₃.ns
      have nsC'' : h₃.Ns C mC := by rw [← elocals]; exact nsC'
      obtain ⟨oC, es, ep, eC, hoC⟩ := id nsC''
      have frC : Free c X hb [C] := g₁.free fun b hm => by rw [List.mem_singleton.mp hm]; exact hC0
      refine hRR _ hb h₃ tk₃ D C oC (.lst acc) _ frC (gout.repin frC (fun b hm f => ?_) (fun b hm x hx u su => ?_) (ps := [(C, oC)]) fun p hp => ?_) (L₁.trans Lb) (rep_lst (.inr rfl) hD₃ ((hacc.later L₃).later Lf) (Nat.le_trans hlen W.size)) ⟨_, nsC''⟩ hT
      · rw [List.mem_singleton.mp hm] at f
        rcases f with f | f
        · exact g₃.LF (by show F' env'.locals; rw [elocals]; exact f)
        · exact hDC f.symm
      · rw [List.mem_singleton.mp hm]
        exact g₁.ownKept ok kept hC0 x hx u su
      · rw [List.mem_singleton.mp hp]; exact ⟨List.mem_cons_self, eC⟩
  exact codeAny_compStart_list loop (W.self 0 _ _ _ hst4 loop)
end
end Mine

namespace Mine

section
variable {c : Cx} {n : Nat} {sc : List (Str × NameKind)}

theorem nd_local {names : List (Str × NameKind)} (hnd : (names.map (·.1)).Nodup) : ∀ x ∈ names, x.2 = .local → names.lookup x.1 = some .local := fun x hx e => by
  obtain ⟨a, b⟩ := x
  have e' : b = .local := e
  subst e'
  exact lookup_nodup hnd hx

theorem act_closure {X : Act} {scope : Scope} (ok : ActOk c sc X) (hfree : ∀ x, (x, NameKind.free) ∈ scope.names → sc.lookup x = some .cell ∨ sc.lookup x = some .free) : ∃ cl, closureOf X.env scope.names [] = some cl :=
  closureOf_some _ _ fun x m => by
    rcases hfree x m with e | e
    · obtain ⟨_, a, ha, _⟩ := ok.cell x e; exact ⟨a, ha⟩
    · obtain ⟨_, a, ha⟩ := ok.free x e; exact ⟨a, ha⟩

noncomputable def freeIn (sc names : List (Str × NameKind)) : Bool := names.all fun p => if p.2 == .free then (sc.lookup p.1 == some .cell || sc.lookup p.1 == some .free) else true
theorem freeIn_ok {names : List (Str × NameKind)} (h : freeIn sc names = true) : ∀ x, (x, NameKind.free) ∈ names → sc.lookup x = some .cell ∨ sc.lookup x = some .free := fun x hm => by
  have := List.all_eq_true.mp h _ hm
  simpa using this

variable {target iter elt : Expr} {ifs : List Expr} {scope : Scope} {pos : Pos} {as : It → St → (St → Prop) → Prop} {TI : St → (List It → St → Prop) → Prop} {Tt : St → (Bool → St → Prop) → Prop} {Te : St → (V → St → Prop) → Prop}

noncomputable def T_comp (names : List (Str × NameKind)) (as : It → St → (St → Prop) → Prop) (TI : St → (List It → St → Prop) → Prop) (Tt : St → (Bool → St → Prop) → Prop) (Te : St → (V → St → Prop) → Prop) (st : St) (P : V → St → Prop) : Prop :=
  TI st fun l st1 => compT as Tt Te l [] (inner names st1) fun acc st2 => P (.lst acc) { st1 with g := st2.g }

theorem e_comp (ht : Tgt scope.names target as) (hi : SemI c n sc target iter TI) (hif : SemIfs c n scope.names ifs Tt) (he : SemE c n scope.names elt Te)
    (hk : scope.kind = .function) (hnd : (scope.names.map (·.1)).Nodup) (hfree : freeIn sc scope.names = true) (hs : ∀ env x, foldedSetIterable iter env x = pure x) :
    SemE c n sc (.ListComp elt [⟨target, iter, ifs, 0⟩] scope pos) (T_comp scope.names as TI Tt Te) := by
  intro A X F s st P Q rm ok g hT hq
  obtain ⟨cl, hcl⟩ := act_closure ok (freeIn_ok hfree)
  rw [eval_ListComp]
  refine wpAny_comprehension_free (use := none) rfl (hs _) (closureFor_of hcl) hk (nd_local hnd) ?_
  refine comp_core ht hi hif he hk hnd (freeIn_ok hfree) rm ok g hcl hT ?_
  intro F' hb h' tk D C oC r st' fre g' L rD nsC hP
  obtain ⟨m, hm⟩ := nsC
  refine ⟨m, hm, fun h'' hs'' => ?_⟩
  obtain ⟨g2, L2⟩ := g'.unpin.off fre (wr := [C]) (fun _ h => h) (fun b hm f => by rw [List.mem_singleton.mp hm] at f; exact (g'.pins (C, oC) List.mem_cons_self).2 f)
    (fun b hm => by rw [List.mem_singleton.mp hm]; exact g'.ownPin (ps := [(C, oC)]) (C, oC) List.mem_cons_self) (h' := h'') fun b o hb e => (hs''.2 b (by simpa using hb)).trans e
  exact hq F' h'' tk _ r st' g2 (L.trans L2) (rD.later L2) hP

theorem s_comp {y : Str} {py spos : Pos} (ht : Tgt scope.names target as) (hi : SemI c n sc target iter TI) (hif : SemIfs c n scope.names ifs Tt) (he : SemE c n scope.names elt Te)
    (hk : scope.kind = .function) (hnd : (scope.names.map (·.1)).Nodup) (hfree : freeIn sc scope.names = true) (hs : ∀ env x, foldedSetIterable iter env x = pure x)
    (hy : sc.lookup y = some .local) (hsw : ∀ env, env.kindOf y = some .local → env.scope.kind = .function → swapsWith (.ListComp elt [⟨target, iter, ifs, 0⟩] scope pos) (some (.Name y py)) spos.line env = pure true) :
    SemS c n sc (.Assign [.Name y py] (.ListComp elt [⟨target, iter, ifs, 0⟩] scope pos) spos) (fun st P => T_comp scope.names as TI Tt Te st fun v st1 => P .next (st1.set y v)) := by
  intro A X F s st P Q rm ok g hT hq
  obtain ⟨cl, hcl⟩ := act_closure ok (freeIn_ok hfree)
  rw [exec_Assign_Name_used _ _ _ _ (hsw _ (ok.loc y hy) ok.kind)]
  refine wpAny_bind (wpAny_standAt (wpAny_bind ?_))
  show wpAny _ A (do let _ ← comprehension (.ListComp elt [⟨target, iter, ifs, 0⟩] scope pos) scope X.env _ (newList []) false (eval iter X.env) (some (assign (.Name y py) X.env))) _ _ s
  refine wpAny_bind (wpAny_mono (wpAny_comprehension_free (use := some (assign (.Name y py) X.env)) (Q := fun _ s' => Q .next s') rfl (hs _) (closureFor_of hcl) hk (nd_local hnd) ?_) (fun _ s' hq => wpAny_pure (wpAny_pure hq)) fun _ _ e => e)
  refine comp_core (P := fun v st1 => P .next (st1.set y v)) ht hi hif he hk hnd (freeIn_ok hfree) rm ok g hcl hT ?_
  intro F' hb h' tk D C oC r st' fre g' L rD nsC hP
  have okp : ActOk c sc (X.pin [(C, oC)]) := ok.pinned fre fun p hp => by rw [List.mem_singleton.mp hp]; exact List.mem_cons_self
  show wpAny _ A (assign (.Name y py) X.env (.ref D)) _ _ _
  refine wpAny_assign_Name (store_loc (X := X.pin [(C, oC)]) (s := { s with heap := h', toks := tk }) g' okp rD (.inl hy) fun h2 tk2 g2 L2 => ?_)
  obtain ⟨m, hm⟩ := nsC
  have eC : h'.get? C = some oC := (g'.pins (C, oC) List.mem_cons_self).1
  have eC2 : h2.get? C = some oC := (g2.pins (C, oC) List.mem_cons_self).1
  refine ⟨m, hm.at' fun o e => by rw [eC] at e; cases e; exact eC2, fun h'' hs'' => ?_⟩
  obtain ⟨g3, L3⟩ := g2.unpin.off fre (wr := [C]) (fun _ h => h) (fun b hm f => by rw [List.mem_singleton.mp hm] at f; exact (g2.pins (C, oC) List.mem_cons_self).2 f)
    (fun b hm => by rw [List.mem_singleton.mp hm]; exact g2.ownPin (ps := [(C, oC)]) (C, oC) List.mem_cons_self) (h' := h'') fun b o hb e => (hs''.2 b (by simpa using hb)).trans e
  exact hq F' h'' tk2 .next .next _ g3 ((L.trans L2).trans L3) rfl hP

-- sources
theorem KTurns.weaken {prog : Program} {w : World} {A : Around} {target : Expr} {I : Addr} {fp wr : List Addr} {n : Nat} {P P' Md : Nat → Value → Heap → Prop} {St : Nat → Heap → Prop} (W : KTurns prog w A target I fp wr n P Md St) (h : ∀ i v g, P i v g → P' i v g) : KTurns prog w A target I fp wr n P' Md St where
  sub := W.sub
  frame := W.frame
  item := W.item
  go := fun i v s Q E hm hQ => W.go i v s Q E hm fun h' hp => hQ h' (h _ _ _ hp)
  done := W.done

theorem Turn.ofWalks {A : Around} {F : Addr → Prop} {hb : Heap} {I : Addr} {fp wr fr : List Addr} {x : Str} {px : Pos} {l : List It} {P : Nat → Value → Prop} {St : Nat → Heap → Prop} (W : Walks c.prog c.w A I fp wr l.length P St)
    (hP : ∀ i v F' h, P i v → Later F hb F' h → ∃ it, l[i]? = some it ∧ ItRep c.ad F' h it v) (sub : ∀ b ∈ wr, b ∈ fr) (fresh : ∀ b ∈ fr, hb.get? b = none) (froz : ∀ b ∈ fp, F b ∨ b ∈ fr) (there : ∀ i h, St i h → ∀ b ∈ fr, ∃ o, h.get? b = some o) (size : l.length ≤ sizeLine) :
    Turn c A (.Name x px) F hb I fp wr fr l (fun i v h => P i v ∧ St (i + 1) h) St where
  turns := KTurns.weaken (KTurns.ofWalks W fun i v s Q E _ hQ => wpAny_pure hQ) fun i v g hp F' L => hP i v F' g hp L
  self := W.self
  sub := sub
  fresh := fresh
  froz := froz
  there := there
  size := size

theorem Turn.ofWalksU {A : Around} {F : Addr → Prop} {hb : Heap} {I : Addr} {fp wr fr : List Addr} {elts : List Expr} {k : Nat} {pos : Pos} {l : List It} {Pt : Nat → Array Value → Prop} {St : Nat → Heap → Prop} {Mid : Nat → Addr → Heap → Prop} (W : WalksU c.prog c.w A I fp wr l.length Pt St Mid)
    (hP : ∀ i vals F' h T, Pt i vals → h.IsTuple T vals → Later F hb F' h → ∃ it, l[i]? = some it ∧ ItRep c.ad F' h it (.ref T)) (sub : ∀ b ∈ wr, b ∈ fr) (fresh : ∀ b ∈ fr, hb.get? b = none) (froz : ∀ b ∈ fp, F b ∨ b ∈ fr) (there : ∀ i h, St i h → ∀ b ∈ fr, ∃ o, h.get? b = some o) (size : l.length ≤ sizeLine) :
    Turn c A (.Tuple elts k pos) F hb I fp wr fr l (fun i v h => ∃ T vals, v = .ref T ∧ Pt i vals ∧ h.IsTuple T vals ∧ Mid i T h) St where
  turns := KTurns.weaken (KTurns.ofWalksU W) fun i v g ⟨T, vals, e, hp, hT⟩ F' L => by subst e; exact hP i vals F' g T hp hT L
  self := W.self
  sub := sub
  fresh := fresh
  froz := froz
  there := there
  size := size

noncomputable def rngL (a b d : Int) : List Int := (List.range (Builtin.Range.rangeSize a b d).toNat).map fun k : Nat => a + (k : Int) * d

noncomputable def onIter (v : V) (st : St) (k : List It → Prop) : Prop := match v with
  | .obj .numbers => st.g.done = true ∧ k (st.g.numbers.map .one)
  | .lst l => k (l.map .one)
  | .tup l => k (l.map .one)
  | .rng a b d => (Builtin.Range.rangeSize a b d).toNat ≤ sizeLine ∧ k ((rngL a b d).map fun i => .one (.int i))
  | _ => False

theorem i_val {e : Expr} {x : Str} {px : Pos} {T : St → (V → St → Prop) → Prop} (he : SemE c n sc e T) : SemI c n sc (.Name x px) e (fun st P => T st fun v st1 => onIter v st1 fun l => P l st1) := by
  intro A X F s st P Q rm ok g ht hq
  refine he A X F s st _ _ rm ok g ht fun F1 h1 tk1 u v st1 g1 L1 r1 p1 => ?_
  unfold onIter at p1
  have fresh : ∀ b ∈ [h1.objs.size], h1.get? b = none := fun b hb => by rw [List.mem_singleton.mp hb]; exact none_at_size _
  split at p1
  · obtain ⟨hd, p1⟩ := p1
    obtain ⟨rfl, hon⟩ : u = .ref (c.ad .numbers) ∧ On c.ad := r1
    obtain ⟨xs, p, r, z⟩ := (g1.g.real hon).numbers
    have f : F1 (c.ad .numbers) := by
      rcases (g1.g.real hon).live with ⟨e, _⟩ | ⟨_, f, _⟩
      · rw [hd] at e; cases e
      · exact f
    generalize c.ad .numbers = a at p f ⊢
    generalize st1.g.numbers = l at r z p1
    obtain ⟨o, e⟩ := g1.froz a f
    have hlt : a < h1.objs.size := Heap.lt_size e
    have hlen : (l.map It.one).length = xs.toArray.size := by rw [List.length_map, r.length]; simp
    refine wpAny_pyIter_list (s := { s with heap := h1, toks := tk1 }) p.isList ?_
    have W := Walks.list (prog := c.prog) (w := c.w) (A := A) rm.h h1.objs.size a (Nat.ne_of_lt hlt) xs.toArray
    rw [← hlen] at W
    refine hq F1 h1 _ tk1 h1.objs.size _ _ [h1.objs.size] _ st1 _ _ g1 (fun b o e => Heap.get?_push_of_some _ e) L1 (Turn.ofWalks W (fun i v F' h hp L => ?_) (fun _ h => h) fresh (fun b hb => ?_) (fun i h st b hb => ?_) (by simpa using z)) ⟨⟨_, Heap.get?_push_size _ rfl, rfl, rfl⟩, p.isList.push _⟩ p1
    · have hp' : xs[i]? = some v := by simpa using hp
      have hi : i < l.length := by rw [r.length]; exact (List.getElem?_eq_some_iff.mp hp').1
      obtain ⟨x, h1, h2⟩ := r.get (i := i) (v := l[i]) (by simp [hi])
      rw [hp'] at h1; cases h1
      exact ⟨.one l[i], by simp [hi], h2.later L⟩
    · rcases List.mem_cons.mp hb with rfl | hb
      · exact .inr List.mem_cons_self
      · rw [List.mem_singleton.mp hb]; exact .inl f
    · rw [List.mem_singleton.mp hb]; obtain ⟨⟨o, e, _⟩, _⟩ := st; exact ⟨o, e⟩
  · rename_i l
    obtain ⟨a, xs, rfl, f, p, r, z⟩ := r1
    obtain ⟨o, e⟩ := g1.froz a f
    have hlt : a < h1.objs.size := Heap.lt_size e
    have hlen : (l.map It.one).length = xs.toArray.size := by rw [List.length_map, r.length]; simp
    refine wpAny_pyIter_list (s := { s with heap := h1, toks := tk1 }) p.isList ?_
    have W := Walks.list (prog := c.prog) (w := c.w) (A := A) rm.h h1.objs.size a (Nat.ne_of_lt hlt) xs.toArray
    rw [← hlen] at W
    refine hq F1 h1 _ tk1 h1.objs.size _ _ [h1.objs.size] _ st1 _ _ g1 (fun b o e => Heap.get?_push_of_some _ e) L1 (Turn.ofWalks W (fun i v F' h hp L => ?_) (fun _ h => h) fresh (fun b hb => ?_) (fun i h st b hb => ?_) (by simpa using z)) ⟨⟨_, Heap.get?_push_size _ rfl, rfl, rfl⟩, p.isList.push _⟩ p1
    · have hp' : xs[i]? = some v := by simpa using hp
      have hi : i < l.length := by rw [r.length]; exact (List.getElem?_eq_some_iff.mp hp').1
      obtain ⟨x, h1, h2⟩ := r.get (i := i) (v := l[i]) (by simp [hi])
      rw [hp'] at h1; cases h1
      exact ⟨.one l[i], by simp [hi], h2.later L⟩
    · rcases List.mem_cons.mp hb with rfl | hb
      · exact .inr List.mem_cons_self
      · rw [List.mem_singleton.mp hb]; exact .inl f
    · rw [List.mem_singleton.mp hb]; obtain ⟨⟨o, e, _⟩, _⟩ := st; exact ⟨o, e⟩
  · rename_i l
    obtain ⟨a, xs, rfl, f, p, r, z⟩ := r1
    obtain ⟨o, e⟩ := g1.froz a f
    have hlt : a < h1.objs.size := Heap.lt_size e
    have hlen : (l.map It.one).length = xs.toArray.size := by rw [List.length_map, r.length]; simp
    refine wpAny_pyIter_tuple (s := { s with heap := h1, toks := tk1 }) p.isTuple ?_
    have W := Walks.tuple (prog := c.prog) (w := c.w) (A := A) rm.h h1.objs.size a (Nat.ne_of_lt hlt) xs.toArray
    rw [← hlen] at W
    refine hq F1 h1 _ tk1 h1.objs.size _ _ [h1.objs.size] _ st1 _ _ g1 (fun b o e => Heap.get?_push_of_some _ e) L1 (Turn.ofWalks W (fun i v F' h hp L => ?_) (fun _ h => h) fresh (fun b hb => ?_) (fun i h st b hb => ?_) (by simpa using z)) ⟨⟨_, Heap.get?_push_size _ rfl, rfl, rfl⟩, p.isTuple.push _⟩ p1
    · have hp' : xs[i]? = some v := by simpa using hp
      have hi : i < l.length := by rw [r.length]; exact (List.getElem?_eq_some_iff.mp hp').1
      obtain ⟨x, h1, h2⟩ := r.get (i := i) (v := l[i]) (by simp [hi])
      rw [hp'] at h1; cases h1
      exact ⟨.one l[i], by simp [hi], h2.later L⟩
    · rcases List.mem_cons.mp hb with rfl | hb
      · exact .inr List.mem_cons_self
      · rw [List.mem_singleton.mp hb]; exact .inl f
    · rw [List.mem_singleton.mp hb]; obtain ⟨⟨o, e, _⟩, _⟩ := st; exact ⟨o, e⟩
  · rename_i a b d
    obtain ⟨x, t, u, w, rfl, f, hr, hsm⟩ := r1
    obtain ⟨hz, p1⟩ := p1
    refine wpAny_pyIter_range (s := { s with heap := h1, toks := tk1 }) hr hsm ?_
    have hlen : ((rngL a b d).map fun i => It.one (.int i)).length = (Builtin.Range.rangeSize a b d).toNat := by simp [rngL]
    have W := (Walks.range (prog := c.prog) (w := c.w) (A := A) rm.h h1.objs.size a d (Builtin.Range.rangeSize a b d).toNat).bound
    rw [← hlen] at W
    have hnn : ((Builtin.Range.rangeSize a b d).toNat : Int) = Builtin.Range.rangeSize a b d := by
      have : 0 ≤ Builtin.Range.rangeSize a b d := by
        unfold Builtin.Range.rangeSize
        split
        · rename_i h; split
          · exact Int.add_nonneg (Int.ediv_nonneg (by lia) (by lia)) (by lia)
          · lia
        · split
          · exact Int.add_nonneg (Int.ediv_nonneg (by lia) (by lia)) (by lia)
          · lia
      lia
    refine hq F1 h1 _ tk1 h1.objs.size _ _ [h1.objs.size] _ st1 _ _ g1 (fun b o e => Heap.get?_push_of_some _ e) L1 (Turn.ofWalks W (fun i v F' h hp L => ?_) (fun _ h => h) fresh (fun b hb => ?_) (fun i h st b hb => ?_) (by rw [hlen]; exact hz)) ?_ p1
    · obtain ⟨hi, t, rfl⟩ := hp
      rw [hlen] at hi
      exact ⟨.one (.int (a + i * d)), by simp [rngL, hi], (⟨t, rfl⟩ : Rep c.ad F' h (.int (a + i * d)) _)⟩
    · exact .inr hb
    · rw [List.mem_singleton.mp hb]; exact ⟨_, st⟩
    · show IsRangeIter _ _ _ _ _
      rw [hlen, hnn]; simpa using Heap.get?_push_size _ rfl
  · exact p1.elim

end
end Mine

namespace Mine
section
variable {c : Cx} {n : Nat} {sc : List (Str × NameKind)}
noncomputable def pairIt (p : V × V) : It := .two p.1 p.2
noncomputable def pairV (p : V × V) : V := .tup [p.1, p.2]

theorem i_pairs {e : Expr} {elts : List Expr} {k : Nat} {pos : Pos} {T : St → (V → St → Prop) → Prop} (he : SemE c n sc e T) :
    SemI c n sc (.Tuple elts k pos) e (fun st P => T st fun v st1 => ∃ ps : List (V × V), v = .lst (ps.map pairV) ∧ P (ps.map pairIt) st1) := by
  intro A X F s st P Q rm ok g ht hq
  refine he A X F s st _ _ rm ok g ht fun F1 h1 tk1 u v st1 g1 L1 r1 p1 => ?_
  have fresh : ∀ b ∈ [h1.objs.size], h1.get? b = none := fun b hb => by rw [List.mem_singleton.mp hb]; exact none_at_size _
  obtain ⟨ps, rfl, p1⟩ := p1
  obtain ⟨a, xs, rfl, f, p, r, z⟩ := r1
  obtain ⟨o, e⟩ := g1.froz a f
  have hlt : a < h1.objs.size := Heap.lt_size e
  have hlen : (ps.map pairIt).length = xs.toArray.size := by have := r.length; simp only [List.length_map] at this; simp [this]
  have hxl : xs.length = ps.length := by have := r.length; simp only [List.length_map] at this; exact this.symm
  have each : ∀ j, j < xs.length → ∃ T u w, xs[j]? = some (.ref T) ∧ F1 T ∧ h1.IsTuple T #[u, w] ∧ (∀ p, ps[j]? = some p → Rep c.ad F1 h1 p.1 u ∧ Rep c.ad F1 h1 p.2 w) := fun j hj => by
    obtain ⟨x, hx, rx⟩ := r.get (i := j) (v := pairV ps[j]) (by simp [hxl ▸ hj])
    obtain ⟨T, ys, rfl, fT, pT, rT, zT⟩ := rx
    obtain ⟨u, r', rfl, ru, w, r'', rfl, rw, e0⟩ := rT
    cases e0
    exact ⟨T, u, w, hx, fT, pT.isTuple, fun p hp => by rw [List.getElem?_eq_getElem (hxl ▸ hj)] at hp; cases hp; exact ⟨ru, rw⟩⟩
  let Ts : Nat → Addr := fun j => match xs[j]? with
    | some (.ref T) => T
    | _ => 0
  have hTs : ∀ j, j < xs.length → ∃ u w, xs[j]? = some (.ref (Ts j)) ∧ F1 (Ts j) ∧ h1.IsTuple (Ts j) #[u, w] ∧ (∀ p, ps[j]? = some p → Rep c.ad F1 h1 p.1 u ∧ Rep c.ad F1 h1 p.2 w) := fun j hj => by
    obtain ⟨T, u, w, hx, q⟩ := each j hj
    have : Ts j = T := by show (match xs[j]? with | some (.ref T) => T | _ => 0) = T; rw [hx]
    rw [this]; exact ⟨u, w, hx, q⟩
  let vals : Nat → Array Value := fun j => if hj : j < xs.length then #[Classical.choose (hTs j hj), Classical.choose (Classical.choose_spec (hTs j hj))] else #[]
  have hvals : ∀ j (hj : j < xs.length), ∃ u w, vals j = #[u, w] ∧ h1.IsTuple (Ts j) (vals j) ∧ (∀ p, ps[j]? = some p → Rep c.ad F1 h1 p.1 u ∧ Rep c.ad F1 h1 p.2 w) := fun j hj => by
    have q := Classical.choose_spec (Classical.choose_spec (hTs j hj))
    have hv : vals j = #[Classical.choose (hTs j hj), Classical.choose (Classical.choose_spec (hTs j hj))] := dif_pos hj
    exact ⟨_, _, hv, hv ▸ q.2.2.1, q.2.2.2⟩
  have hTlt : ∀ j, j < xs.length → Ts j < h1.objs.size := fun j hj => by obtain ⟨u, w, _, fT, _⟩ := hTs j hj; obtain ⟨o, e⟩ := g1.froz _ fT; exact Heap.lt_size e
  refine wpAny_pyIter_list (s := { s with heap := h1, toks := tk1 }) p.isList ?_
  have W := WalksU.listOfTuples (prog := c.prog) (w := c.w) (A := A) rm.h h1.objs.size a (Nat.ne_of_lt hlt) xs.toArray Ts vals (fun j hj => by obtain ⟨u, w, hx, _⟩ := hTs j (by simpa using hj); simpa using hx) (fun j hj => Nat.ne_of_lt (hTlt j (by simpa using hj)))
  rw [← hlen] at W
  refine hq F1 h1 _ tk1 h1.objs.size _ _ [h1.objs.size] _ st1 _ _ g1 (fun b o e => Heap.get?_push_of_some _ e) L1 (Turn.ofWalksU W.bound (fun i vs F' h T hp hT L => ?_) (fun _ h => h) fresh (fun b hb => ?_) (fun i h st b hb => ?_) (by simpa using z)) ⟨⟨_, Heap.get?_push_size _ rfl, rfl, rfl⟩, p.isList.push _, fun k hk => ?_⟩ p1
  · obtain ⟨hi, rfl⟩ := hp
    rw [hlen] at hi
    have hi' : i < xs.length := by simpa using hi
    obtain ⟨u, w, hv, _, hr⟩ := hvals i hi'
    have hp : ps[i]? = some ps[i] := by simp [hxl ▸ hi']
    obtain ⟨ru, rw'⟩ := hr _ hp
    exact ⟨.two ps[i].1 ps[i].2, by simp [hxl ▸ hi', pairIt], T, u, w, rfl, hv ▸ hT, ru.later L, rw'.later L⟩
  · rcases List.mem_cons.mp hb with rfl | hb
    · exact .inr List.mem_cons_self
    · rcases List.mem_cons.mp hb with rfl | hb
      · exact .inl f
      · obtain ⟨j, hj, rfl⟩ := List.mem_map.mp hb
        obtain ⟨u, w, _, fT, _⟩ := hTs j (by simpa [hlen] using List.mem_range.mp hj)
        exact .inl fT
  · rw [List.mem_singleton.mp hb]; obtain ⟨⟨o, e, _⟩, _⟩ := st; exact ⟨o, e⟩
  · have hk' : k < xs.length := by rw [hlen] at hk; simpa using hk
    obtain ⟨u, w, _, hT, _⟩ := hvals k hk'
    exact hT.push _

end
end Mine

namespace Mine
section
variable {c : Cx} {n : Nat} {sc : List (Str × NameKind)}
noncomputable def zipIt (l m : List V) : List It := (l.zip m).map pairIt

/-- the callee is a name of the machine's -/
theorem i_zip {fe a b : Expr} {elts : List Expr} {k : Nat} {pos tp : Pos} {T : St → (List V → St → Prop) → Prop} (hfe : Callee c sc fe (.type "zip")) (ha : SemA c n sc pos [a, b] T)
    (he : ∀ env, eval (.Call fe [a, b] [] pos) env = (do callWith pos (← eval fe env) [] (backTo pos (starEach [a, b] env)) (backToKw pos (keywordEach [] env))))
    (hplain : ∀ env, (backTo pos (starEach [a, b] env)).any (·.1) = false) :
    SemI c n sc (.Tuple elts k tp) (.Call fe [a, b] [] pos) (fun st P => T st fun vs st1 => match vs with | [.lst l, .lst m] => P (zipIt l m) st1 | _ => False) := by
  intro A X F s st P Q rm ok g ht hq
  refine Call_ (hfe.1 A X F s st _ _ ok g ?_) (he _)
  refine callWith_of (P := fun h => ∃ F, Stat c F h) (by rw [hplain]; rfl) (fun h ⟨F, S⟩ => hfe.2 F h S) (evalArgs_any (hplain _) ?_)
  refine ha A X F s st _ _ rm ok g ht fun F1 h1 tk1 xs as st1 g1 L1 r1 p1 => ?_
  split at p1
  · rename_i l m
    obtain ⟨x, r, rfl, rx, y, r', rfl, ry, e0⟩ := r1
    cases e0
    obtain ⟨a1, xs, rfl, f1, q1, rr1, z1⟩ := rx
    obtain ⟨a2, ys, rfl, f2, q2, rr2, z2⟩ := ry
    obtain ⟨o1, e1⟩ := g1.froz a1 f1
    obtain ⟨o2, e2⟩ := g1.froz a2 f2
    have l1 : a1 < h1.objs.size := Heap.lt_size e1
    have l2 : a2 < h1.objs.size := Heap.lt_size e2
    refine ⟨⟨F1, g1.stat⟩, call_zip_2 (s := { s with heap := h1, toks := tk1 }) q1.isList q2.isList fun h' hz hTI hTO hi1 hi2 hsz hk => ?_⟩
    dsimp only at hz hTI hTO hi1 hi2 hsz hk
    refine wpAny_pyIter_zip (s := { s with heap := h', toks := tk1 }) hz ?_
    obtain ⟨N, hN⟩ : ∃ N : Nat, N = h1.objs.size := ⟨_, rfl⟩
    rw [← hN] at hz hTI hTO hi1 hi2 hsz l1 l2 ⊢
    have D : ZipApart (N + 4) (N + 2) (N + 3) N (N + 1) a1 a2 := by
      have l1' : @LT.lt Nat instLTNat a1 N := l1
      have l2' : @LT.lt Nat instLTNat a2 N := l2
      have key : ∀ x y : Nat, x ≠ y → @Ne Addr x y := fun _ _ h => h
      exact ⟨key _ _ (by lia), key _ _ (by lia), key _ _ (by lia), key _ _ (by lia), key _ _ (by lia), key _ _ (by lia), key _ _ (by lia), key _ _ (by lia), key _ _ (by lia), key _ _ (by lia), key _ _ (by lia), key _ _ (by lia), key _ _ (by lia), key _ _ (by lia), key _ _ (by lia), key _ _ (by lia), key _ _ (by lia), key _ _ (by lia)⟩
    have W := (WalksT.zip2 (prog := c.prog) (w := c.w) (A := A) rm.h (N + 4) (N + 2) (N + 3) N (N + 1) a1 a2 D xs.toArray ys.toArray).toU
    have hlen : (zipIt l m).length = min xs.toArray.size ys.toArray.size := by simp [zipIt, rr1.length, rr2.length]
    rw [← hlen] at W
    have lz : l.length ≤ sizeLine := z1
    refine hq F1 h1 h' tk1 (N + 4) _ _ [N, N + 1, N + 2, N + 3, N + 4] _ st1 _ _ g1 hk L1 (Turn.ofWalksU W (fun i vs F' h T hp hT L => ?_) (fun b hb => ?_) (fun b hb => ?_) (fun b hb => ?_) (fun i h st b hb => ?_) (by rw [hlen]; simp only [List.size_toArray]; rw [← rr1.length]; lia)) ⟨hz, hTI, ⟨_, _, hTO⟩, hi1, hi2, q1.isList.at fun o e => hk _ o e, q2.isList.at fun o e => hk _ o e⟩ p1
    · obtain ⟨x, y, hx, hy, rfl⟩ := hp
      have hx' : xs[i]? = some x := by simpa using hx
      have hy' : ys[i]? = some y := by simpa using hy
      have il : i < l.length := by rw [rr1.length]; exact (List.getElem?_eq_some_iff.mp hx').1
      have im : i < m.length := by rw [rr2.length]; exact (List.getElem?_eq_some_iff.mp hy').1
      obtain ⟨x', hx2, rx⟩ := rr1.get (i := i) (v := l[i]) (by simp [il])
      obtain ⟨y', hy2, ry⟩ := rr2.get (i := i) (v := m[i]) (by simp [im])
      rw [hx'] at hx2; cases hx2
      rw [hy'] at hy2; cases hy2
      exact ⟨.two l[i] m[i], by simp [zipIt, pairIt, List.getElem?_zip_eq_some, il, im], T, x, y, rfl, hT, rx.later L, ry.later L⟩
    · have hb' : b = N + 4 ∨ b = N + 3 ∨ b = N ∨ b = N + 1 := by simpa using hb
      rcases hb' with rfl | rfl | rfl | rfl <;> simp
    · have hb' : b = N ∨ b = N + 1 ∨ b = N + 2 ∨ b = N + 3 ∨ b = N + 4 := by simpa using hb
      refine ge_none (show h1.objs.size ≤ (b : Nat) from ?_)
      rw [← hN]
      rcases hb' with rfl | rfl | rfl | rfl | rfl <;> first | exact Nat.le_refl _ | exact Nat.le_add_right _ _
    · have hb' : b = N + 4 ∨ b = N + 2 ∨ b = N + 3 ∨ b = N ∨ b = N + 1 ∨ b = a1 ∨ b = a2 := by simpa using hb
      rcases hb' with rfl | rfl | rfl | rfl | rfl | rfl | rfl
      iterate 5 (right; simp)
      · exact .inl f1
      · exact .inl f2
    · obtain ⟨hz, hTI, ⟨_, _, hTO⟩, ⟨o1, i1, _⟩, ⟨o2, i2, _⟩, _⟩ := st
      have hb' : b = N ∨ b = N + 1 ∨ b = N + 2 ∨ b = N + 3 ∨ b = N + 4 := by simpa using hb
      rcases hb' with rfl | rfl | rfl | rfl | rfl
      · exact ⟨_, i1⟩
      · exact ⟨_, i2⟩
      · exact ⟨_, hTI⟩
      · exact ⟨_, hTO⟩
      · exact ⟨_, hz⟩
  · exact p1.elim

end
end Mine

namespace Mine
section
variable {c : Cx} {n : Nat} {sc : List (Str × NameKind)}
noncomputable def enumIt (l : List V) : List It := (List.range l.length).map fun i : Nat => .two (.int i) (l.getD i .none)

theorem i_enum {fe a : Expr} {elts : List Expr} {k : Nat} {pos tp : Pos} {T : St → (List V → St → Prop) → Prop} (hfe : Callee c sc fe (.type "enumerate")) (ha : SemA c n sc pos [a] T)
    (he : ∀ env, eval (.Call fe [a] [] pos) env = (do callWith pos (← eval fe env) [] (backTo pos (starEach [a] env)) (backToKw pos (keywordEach [] env))))
    (hplain : ∀ env, (backTo pos (starEach [a] env)).any (·.1) = false) :
    SemI c n sc (.Tuple elts k tp) (.Call fe [a] [] pos) (fun st P => T st fun vs st1 => match vs with | [.lst l] => P (enumIt l) st1 | _ => False) := by
  intro A X F s st P Q rm ok g ht hq
  refine Call_ (hfe.1 A X F s st _ _ ok g ?_) (he _)
  refine callWith_of (P := fun h => ∃ F, Stat c F h) (by rw [hplain]; rfl) (fun h ⟨F, S⟩ => hfe.2 F h S) (evalArgs_any (hplain _) ?_)
  refine ha A X F s st _ _ rm ok g ht fun F1 h1 tk1 xs as st1 g1 L1 r1 p1 => ?_
  split at p1
  · rename_i l
    obtain ⟨x, r, rfl, rx, e0⟩ := r1
    cases e0
    obtain ⟨a1, xs, rfl, f1, q1, rr1, z1⟩ := rx
    obtain ⟨o1, e1⟩ := g1.froz a1 f1
    have l1 : a1 < h1.objs.size := Heap.lt_size e1
    refine ⟨⟨F1, g1.stat⟩, call_enumerate_list (s := { s with heap := h1, toks := tk1 }) q1.isList fun h' hE hi hsz hk => ?_⟩
    dsimp only at hE hi hsz hk
    refine wpAny_pyIter_enum (s := { s with heap := h', toks := tk1 }) hE ?_
    obtain ⟨N, hN⟩ : ∃ N : Nat, N = h1.objs.size := ⟨_, rfl⟩
    rw [← hN] at hE hi hsz l1 ⊢
    have l1' : @LT.lt Nat instLTNat a1 N := l1
    have key : ∀ x y : Nat, x ≠ y → @Ne Addr x y := fun _ _ h => h
    have W := (WalksT.enumerate (prog := c.prog) (w := c.w) (A := A) rm.h (N + 1) N a1 (key _ _ (by lia)) (key _ _ (by lia)) (key _ _ (by lia)) xs.toArray).toU
    have hlen : (enumIt l).length = xs.toArray.size := by simp [enumIt, rr1.length]
    rw [← hlen] at W
    refine hq F1 h1 h' tk1 (N + 1) _ _ [N, N + 1] _ st1 _ _ g1 hk L1 (Turn.ofWalksU W (fun i vs F' h T hp hT L => ?_) (fun b hb => ?_) (fun b hb => ?_) (fun b hb => ?_) (fun i h st b hb => ?_) (by rw [hlen]; simp only [List.size_toArray]; rw [← rr1.length]; exact z1)) ⟨⟨_, by simpa using hE⟩, hi, q1.isList.at fun o e => hk _ o e⟩ p1
    · obtain ⟨t, x, hx, rfl⟩ := hp
      have hx' : xs[i]? = some x := by simpa using hx
      have il : i < l.length := by rw [rr1.length]; exact (List.getElem?_eq_some_iff.mp hx').1
      obtain ⟨x', hx2, rx⟩ := rr1.get (i := i) (v := l[i]) (by simp [il])
      rw [hx'] at hx2; cases hx2
      exact ⟨.two (.int i) l[i], by simp [enumIt, il], T, _, x, rfl, hT, rep_int _ _, rx.later L⟩
    · have hb' : b = N + 1 ∨ b = N := by simpa using hb
      rcases hb' with rfl | rfl <;> simp
    · have hb' : b = N ∨ b = N + 1 := by simpa using hb
      refine ge_none (show h1.objs.size ≤ (b : Nat) from ?_)
      rw [← hN]
      rcases hb' with rfl | rfl <;> first | exact Nat.le_refl _ | exact Nat.le_add_right _ _
    · have hb' : b = N + 1 ∨ b = N ∨ b = a1 := by simpa using hb
      rcases hb' with rfl | rfl | rfl
      iterate 2 (right; simp)
      · exact .inl f1
    · obtain ⟨⟨_, hE⟩, ⟨o2, i2, _⟩, _⟩ := st
      have hb' : b = N ∨ b = N + 1 := by simpa using hb
      rcases hb' with rfl | rfl
      · exact ⟨_, i2⟩
      · exact ⟨_, hE⟩
  · exact p1.elim
end
end Mine

namespace Mine

section
variable {c : Cx}

theorem grow_call {A : Around} {F : Addr → Prop} {s : Shared} {g : G} {P : V → G → Prop} {Q : Value → Shared → Prop} {h' : Heap} {tk : Nat} {v : Value} {r : V}
    (st : Stat c F s.heap) (gr : GRep c F s.heap g) (fz : ∀ a, F a → ∃ o, s.heap.get? a = some o)
    (hq : ∀ F' h' tk v r g', Stat c F' h' → GRep c F' h' g' → (∀ a, F' a → ∃ o, h'.get? a = some o) → Later F s.heap F' h' → (∀ a, F' a → F a ∨ s.heap.get? a = none) →
      (∀ a o, s.heap.get? a = some o → ¬ GM c a → h'.get? a = some o) → Rep c.ad F' h' r v → P r g' → Q v { s with heap := h', toks := tk })
    (up : ∀ b o, s.heap.get? b = some o → h'.get? b = some o) (Z : Addr → Prop) (hz : ∀ a, Z a → s.heap.get? a = none ∧ ∃ o, h'.get? a = some o)
    (rv : Later F s.heap (fun a => F a ∨ Z a) h' → Rep c.ad (fun a => F a ∨ Z a) h' r v) (hp : P r g) : Q v { s with heap := h', toks := tk } := by
  have L : Later F s.heap (fun a => F a ∨ Z a) h' := ⟨fun a f => .inl f, fun a o _ e => up a o e⟩
  have nf : ∀ a, (F a ∨ Z a) → ¬ GM c a := by
    rintro a (f | z)
    · exact gr.nf a f
    · intro m
      obtain ⟨o, e⟩ := gr.there a m
      rw [(hz a z).1] at e; cases e
  exact hq _ h' tk v r g (st.later L) (gr.same L (fun a _ o e => up a o e) nf) (fun a q => by
    rcases q with f | z
    · obtain ⟨o, e⟩ := fz a f; exact ⟨o, up _ _ e⟩
    · exact (hz a z).2) L (fun a q => q.imp id fun z => (hz a z).1) (fun a o e _ => up a o e) (rv L) hp

noncomputable def lenV (v : V) (g : G) (P : V → G → Prop) : Prop := match v with
  | .lst l => P (.int l.length) g
  | .tup l => P (.int l.length) g
  | .obj .kinds => P (.int g.kinds.length) g
  | .obj .numbers => P (.int g.numbers.length) g
  | _ => False
noncomputable def S_len (args : List V) (g : G) (P : V → G → Prop) : Prop := match args with
  | [v] => lenV v g P
  | _ => False
theorem c_len : CallS c 0 (.builtin "len") S_len := by
  intro A F s g args xs P Q rm st gr fz r hs hq
  have hz : sizeLine = 16777216 := rfl
  rcases args with _ | ⟨v, _ | ⟨w, t⟩⟩
  · exact False.elim hs
  · cases v with
    | lst l =>
      obtain ⟨x, r', rfl, rx, e0⟩ := r
      cases e0
      obtain ⟨a, ys, rfl, f, p, rr, z⟩ := rx
      refine call_len_list p.isList (by simp only [List.size_toArray]; rw [← rr.length]; lia) ?_
      exact grow_call (A := A) (r := .int _) st gr fz hq (fun _ _ e => e) (fun _ => False) (fun _ h => h.elim) (fun _ => ⟨s.toks + 1, by simp [rr.length]⟩) hs
    | tup l =>
      obtain ⟨x, r', rfl, rx, e0⟩ := r
      cases e0
      obtain ⟨a, ys, rfl, f, p, rr, z⟩ := rx
      refine PyProof.Rows.len_tuple p.isTuple (by simp only [List.size_toArray]; rw [← rr.length]; lia) ?_
      exact grow_call (A := A) (r := .int _) st gr fz hq (fun _ _ e => e) (fun _ => False) (fun _ h => h.elim) (fun _ => ⟨s.toks + 1, by simp [rr.length]⟩) hs
    | obj ob =>
      cases ob with
      | kinds =>
        obtain ⟨x, r', rfl, rx, e0⟩ := r
        cases e0
        obtain ⟨rfl, hon⟩ : x = .ref (c.ad .kinds) ∧ On c.ad := rx
        obtain ⟨ys, p, rr, z⟩ := (gr.real hon).kinds
        have hl := rr.length
        rw [List.length_map] at hl
        refine call_len_list p.isList (by simp only [List.size_toArray]; rw [← hl]; lia) ?_
        exact grow_call (A := A) (r := .int _) st gr fz hq (fun _ _ e => e) (fun _ => False) (fun _ h => h.elim) (fun _ => ⟨s.toks + 1, by simp [hl]⟩) hs
      | numbers =>
        obtain ⟨x, r', rfl, rx, e0⟩ := r
        cases e0
        obtain ⟨rfl, hon⟩ : x = .ref (c.ad .numbers) ∧ On c.ad := rx
        obtain ⟨ys, p, rr, z⟩ := (gr.real hon).numbers
        have hl := rr.length
        refine call_len_list p.isList (by simp only [List.size_toArray]; rw [← hl]; lia) ?_
        exact grow_call (A := A) (r := .int _) st gr fz hq (fun _ _ e => e) (fun _ => False) (fun _ h => h.elim) (fun _ => ⟨s.toks + 1, by simp [hl]⟩) hs
      | _ => exact False.elim hs
    | _ => exact False.elim hs
  · exact False.elim hs

noncomputable def S_abs (args : List V) (g : G) (P : V → G → Prop) : Prop := match args with
  | [v] => onInt v fun i => P (.int i.natAbs) g
  | _ => False
theorem c_abs : CallS c 0 (.builtin "abs") S_abs := by
  intro A F s g args xs P Q rm st gr fz r hs hq
  rcases args with _ | ⟨v, _ | ⟨w, t⟩⟩
  · exact False.elim hs
  · obtain ⟨i, rfl, hs⟩ := onInt_elim hs
    obtain ⟨x, r', rfl, rx, e0⟩ := r
    cases e0
    obtain ⟨t, rfl⟩ : ∃ t, x = .int i t := rx
    refine call_abs_int fun u tk => ?_
    exact grow_call (A := A) (r := .int _) st gr fz hq (fun _ _ e => e) (fun _ => False) (fun _ h => h.elim) (fun _ => ⟨u, by congr 1; split <;> lia⟩) hs
  · exact False.elim hs

noncomputable def S_max (args : List V) (g : G) (P : V → G → Prop) : Prop := match args with
  | [v, w] => onInt v fun i => onInt w fun j => P (.int (max i j)) g
  | _ => False
theorem c_max : CallS c 0 (.builtin "max") S_max := by
  intro A F s g args xs P Q rm st gr fz r hs hq
  rcases args with _ | ⟨v, _ | ⟨w, _ | ⟨z, t⟩⟩⟩
  · exact False.elim hs
  · exact False.elim hs
  · obtain ⟨i, rfl, hs⟩ := onInt_elim hs
    obtain ⟨j, rfl, hs⟩ := onInt_elim hs
    obtain ⟨x, r', rfl, rx, y, r'', rfl, ry, e0⟩ := r
    cases e0
    obtain ⟨t, rfl⟩ : ∃ t, x = .int i t := rx
    obtain ⟨u, rfl⟩ : ∃ t, y = .int j t := ry
    refine max_two_ints rm.h fun h' tk up => ?_
    refine grow_call (A := A) (r := .int _) st gr fz hq up (fun _ => False) (fun _ h => h.elim) (fun _ => ?_) hs
    by_cases h : j > i
    · rw [if_pos h]; exact ⟨u, by congr 1; lia⟩
    · rw [if_neg h]; exact ⟨t, by congr 1; lia⟩
  · exact False.elim hs

noncomputable def S_int (args : List V) (g : G) (P : V → G → Prop) : Prop := match args with
  | [v] => onInt v fun i => P (.int i) g
  | _ => False
theorem c_int : CallS c 0 (.type "int") S_int := by
  intro A F s g args xs P Q rm st gr fz r hs hq
  rcases args with _ | ⟨v, _ | ⟨w, t⟩⟩
  · exact False.elim hs
  · obtain ⟨i, rfl, hs⟩ := onInt_elim hs
    obtain ⟨x, r', rfl, rx, e0⟩ := r
    cases e0
    obtain ⟨t, rfl⟩ : ∃ t, x = .int i t := rx
    refine call_int_int ?_
    exact grow_call (A := A) (r := .int _) st gr fz hq (fun _ _ e => e) (fun _ => False) (fun _ h => h.elim) (fun _ => ⟨t, rfl⟩) hs
  · exact False.elim hs

noncomputable def tupleV (v : V) (g : G) (P : V → G → Prop) : Prop := match v with
  | .lst l => P (.tup l) g
  | .tup l => P (.tup l) g
  | _ => False
noncomputable def S_tuple (args : List V) (g : G) (P : V → G → Prop) : Prop := match args with
  | [v] => tupleV v g P
  | _ => False
theorem c_tuple : CallS c 0 (.type "tuple") S_tuple := by
  intro A F s g args xs P Q rm st gr fz r hs hq
  rcases args with _ | ⟨v, _ | ⟨w, t⟩⟩
  · exact False.elim hs
  · cases v with
    | lst l =>
      obtain ⟨x, r', rfl, rx, e0⟩ := r
      cases e0
      obtain ⟨a, ys, rfl, f, p, rr, z⟩ := rx
      refine call_tuple_list (hsz := by simp only [List.size_toArray]; rw [← rr.length]; exact z) p.isList fun h' up => ?_
      have hn : s.heap.get? h'.objs.size = none := by
        cases e : s.heap.get? h'.objs.size with
        | none => rfl
        | some o => exact absurd (Heap.lt_size (up _ _ e)) (Nat.lt_irrefl _)
      have up2 : ∀ b o, s.heap.get? b = some o → (h'.push { cls := .type "tuple", data := .seq ys.toArray }).get? b = some o := fun b o e => Heap.get?_push_of_some _ (up b o e)
      refine grow_call (A := A) (r := .tup _) (tk := s.toks) st gr fz hq up2 (fun a => a = h'.objs.size) (fun a e => by subst e; exact ⟨hn, _, Heap.get?_push_size _ rfl⟩) (fun L => ?_) hs
      exact rep_tup (.inr rfl) ⟨0, Heap.get?_push_size _ rfl⟩ (rr.later L) z
    | tup l =>
      obtain ⟨x, r', rfl, rx, e0⟩ := r
      cases e0
      have rx' := rx
      obtain ⟨a, ys, rfl, f, p, rr, z⟩ := rx
      refine call_tuple_same p.isTuple ?_
      exact grow_call (A := A) (r := .tup _) (tk := s.toks) st gr fz hq (fun _ _ e => e) (fun _ => False) (fun _ h => h.elim) (fun L => rx'.later L) hs
    | _ => exact False.elim hs
  · exact False.elim hs

noncomputable def S_list (args : List V) (g : G) (P : V → G → Prop) : Prop := match args with
  | [v] => onLst v fun l => P (.lst l) g
  | _ => False
theorem c_list : CallS c 0 (.type "list") S_list := by
  intro A F s g args xs P Q rm st gr fz r hs hq
  rcases args with _ | ⟨v, _ | ⟨w, t⟩⟩
  · exact False.elim hs
  · obtain ⟨l, rfl, hs⟩ := onLst_elim hs
    obtain ⟨x, r', rfl, rx, e0⟩ := r
    cases e0
    obtain ⟨a, ys, rfl, f, ⟨m, p⟩, rr, z⟩ := rx
    refine call_list_seq a (.inl rfl) p rfl rfl (hsz := by simp only [List.size_toArray]; rw [← rr.length]; exact z) fun h' c' up e => ?_
    refine grow_call (A := A) (r := .lst _) (tk := s.toks) st gr fz hq up (fun a => a = s.heap.objs.size) (fun a q => by subst q; exact ⟨none_at_size _, _, e⟩) (fun L => ?_) hs
    exact rep_lst (.inr rfl) ⟨_, e⟩ (rr.later L) z
  · exact False.elim hs

noncomputable def S_range (args : List V) (g : G) (P : V → G → Prop) : Prop := match args with
  | [v] => onInt v fun n => Builtin.Range.small 0 n 1 = true ∧ P (.rng 0 n 1) g
  | [v, w] => onInt v fun a => onInt w fun n => Builtin.Range.small a n 1 = true ∧ P (.rng a n 1) g
  | [v, w, z] => onInt v fun a => onInt w fun n => onInt z fun d => (d ≠ 0 ∧ (n - a).natAbs < 2 ^ 30 ∧ d.natAbs < 2 ^ 30) ∧ Builtin.Range.small a n d = true ∧ P (.rng a n d) g
  | _ => False
theorem c_range : CallS c 0 (.type "range") S_range := by
  intro A F s g args xs P Q rm st gr fz r hs hq
  rcases args with _ | ⟨v, _ | ⟨w, _ | ⟨z, _ | ⟨y, q⟩⟩⟩⟩
  · exact False.elim hs
  · obtain ⟨n, rfl, hs⟩ := onInt_elim hs
    obtain ⟨x, r', rfl, rx, e0⟩ := r
    cases e0
    obtain ⟨t, rfl⟩ : ∃ t, x = .int n t := rx
    refine call_range_1 ?_
    refine grow_call (A := A) (r := .rng _ _ _) st gr fz hq (fun b o e => Heap.get?_push_of_some _ e) (fun a => a = s.heap.objs.size) (fun a q => by subst q; exact ⟨none_at_size _, _, Heap.get?_push_size _ rfl⟩) (fun L => ?_) hs.2
    exact ⟨_, _, _, _, rfl, .inr rfl, Heap.get?_push_size _ rfl, hs.1⟩
  · obtain ⟨a, rfl, hs⟩ := onInt_elim hs
    obtain ⟨n, rfl, hs⟩ := onInt_elim hs
    obtain ⟨x, r', rfl, rx, y, r'', rfl, ry, e0⟩ := r
    cases e0
    obtain ⟨t, rfl⟩ : ∃ t, x = .int a t := rx
    obtain ⟨u, rfl⟩ : ∃ t, y = .int n t := ry
    refine call_range_2 ?_
    refine grow_call (A := A) (r := .rng _ _ _) st gr fz hq (fun b o e => Heap.get?_push_of_some _ e) (fun a => a = s.heap.objs.size) (fun a q => by subst q; exact ⟨none_at_size _, _, Heap.get?_push_size _ rfl⟩) (fun L => ?_) hs.2
    exact ⟨_, _, _, _, rfl, .inr rfl, Heap.get?_push_size _ rfl, hs.1⟩
  · obtain ⟨a, rfl, hs⟩ := onInt_elim hs
    obtain ⟨n, rfl, hs⟩ := onInt_elim hs
    obtain ⟨d, rfl, hs⟩ := onInt_elim hs
    obtain ⟨x, r', rfl, rx, y, r'', rfl, ry, z, r''', rfl, rz, e0⟩ := r
    cases e0
    obtain ⟨t, rfl⟩ : ∃ t, x = .int a t := rx
    obtain ⟨u, rfl⟩ : ∃ t, y = .int n t := ry
    obtain ⟨v, rfl⟩ : ∃ t, z = .int d t := rz
    obtain ⟨⟨h1, h2, h3⟩, hs⟩ := hs
    refine call_range_3 h1 (hp := .inl (PyProof.noPylong_small (by lia))) ?_
    refine grow_call (A := A) (r := .rng _ _ _) st gr fz hq (fun b o e => Heap.get?_push_of_some _ e) (fun a => a = s.heap.objs.size) (fun a q => by subst q; exact ⟨none_at_size _, _, Heap.get?_push_size _ rfl⟩) (fun L => ?_) hs.2
    exact ⟨_, _, _, _, rfl, .inr rfl, Heap.get?_push_size _ rfl, hs.1⟩
  · exact False.elim hs

noncomputable def S_sum (args : List V) (g : G) (P : V → G → Prop) : Prop := match args with
  | [v] => onLst v fun l => ∃ ns : List Int, l = ns.map .int ∧ P (.int ns.sum) g
  | _ => False
theorem preSum_eq (ns : List Int) : ∀ k, preSum (fun j => ns.getD j 0) k = (ns.take k).sum
  | 0 => by simp [preSum]
  | k + 1 => by
    rw [preSum, preSum_eq ns k, List.take_add_one]
    by_cases h : k < ns.length
    · rw [List.getElem?_eq_getElem h, List.sum_append]; simp [h]
    · have h' : ns.length ≤ k := by lia
      simp [List.getElem?_eq_none h']
theorem c_sum : CallS c 0 (.builtin "sum") S_sum := by
  intro A F s g args xs P Q rm st gr fz r hs hq
  rcases args with _ | ⟨v, _ | ⟨w, t⟩⟩
  · exact False.elim hs
  · obtain ⟨l, rfl, hs⟩ := onLst_elim hs
    obtain ⟨ns, e1, hs2⟩ := hs
    clear hs
    subst e1
    have hs := hs2
    clear hs2
    obtain ⟨x, r', rfl, rx, e0⟩ := r
    cases e0
    obtain ⟨a, ys, rfl, f, p, rr, z⟩ := rx
    have hi := RepL.ints rr
    obtain ⟨o, e⟩ := fz a f
    have hlt : a < s.heap.objs.size := Heap.lt_size e
    refine call_sum_walkG (wpAny_pyIter_list p.isList ?_)
    refine ⟨_, _, _, _, _, _, fun j => ns.getD j 0, rfl, Walks.list (A := A.in1) rm.h s.heap.objs.size a (Nat.ne_of_lt hlt) ys.toArray, ⟨⟨_, Heap.get?_push_size _ rfl, rfl, rfl⟩, p.isList.push _⟩, fun b hb => ?_, fun i v hv => ?_, fun h' tk t' hk => ?_⟩
    · show b < (s.heap.push _).objs.size
      rw [Heap.size_push]
      rcases List.mem_cons.mp hb with rfl | hb
      · exact Nat.lt_succ_self _
      · rw [List.mem_singleton.mp hb]; exact Nat.lt_succ_of_lt hlt
    · have hv' : ys[i]? = some v := by simpa using hv
      have il : i < ns.length := by rw [← hi.length]; exact (List.getElem?_eq_some_iff.mp hv').1
      obtain ⟨t, ht⟩ := hi.get i ns[i] (by simp [il])
      rw [hv'] at ht
      cases ht
      exact ⟨t, by simp [il]⟩
    · refine grow_call (s := s) (A := A) (r := .int _) st gr fz hq (fun b o e => hk b o (fun hm => ?_) (Heap.get?_push_of_some _ e)) (fun _ => False) (fun _ h => h.elim) (fun _ => ⟨t', ?_⟩) hs
      · rw [List.mem_singleton.mp hm, none_at_size] at e; cases e
      · rw [preSum_eq, List.size_toArray, hi.length, List.take_length]
  · exact False.elim hs
end

section
variable {c : Cx} {n : Nat} {sc : List (Str × NameKind)}

-- slices
theorem getItem_tuple_upto {prog : Program} {w : World} {A : Around} {E : Value → Shared → Prop} {s : Shared} {t sl : Addr} {items : Array Value} {b : Nat} {u : Tok} {Q : Value → Shared → Prop} (ht : IsTup s.heap t items) (hs : s.heap.IsSliceOf sl .none (.int b u) .none) (h1 : 1 ≤ b) (hb : b ≤ items.size)
    (h : ∀ r h', (∀ a o, s.heap.get? a = some o → h'.get? a = some o) → ((r = t ∧ b = items.size ∧ h' = s.heap) ∨ (s.heap.get? r = none ∧ h'.get? r = some { cls := .type "tuple", data := .seq (items.toList.take b).toArray })) → Q (.ref r) { s with heap := h' })
    (hsz : items.size ≤ sizeLine) : wpAny (model prog w) A (getItem (.ref t) (.ref sl)) Q E s := by
  have htake : sizeOk (.seq (items.toList.take b).toArray) := by
    show (items.toList.take b).toArray.size ≤ sizeLine
    rw [List.size_toArray, List.length_take, Array.length_toList]
    lia
  obtain ⟨os, hos, hcs, hds⟩ := id hs
  have hTs : s.TypeIs (.ref sl) "slice" := ⟨os, hos, hcs⟩
  unfold getItem
  try with_reducible refine wpAny_holding ?_
  first | refine wpAny_bind (wpAny_pure ?_) | skip
  refine wpAny_bind (wpAny_sequenceKey ht.typeIs (by decide) ?_)
  refine wpAny_bind (wpAny_callSpecial?_slot (name := Str.ofString "__getitem__") ht.typeIs slot_tuple_getitem
    (wpAny_call_entry slot_tuple_getitem ht.typeIs entry_tuple_getitem ?_ (args_tuple_getitem _ _)))
  show wpAny _ _ (Builtin.Tuple.tupleItemsOf (.ref t) >>= _) _ _ s
  refine wpAny_bind (tupleItemsOf_ ht ?_)
  refine wpAny_bind (wpAny_typeOf hTs ?_)
  rw [if_pos (by decide)]
  have app : ∀ {Q : Int × Int × Nat → Shared → Prop} {E : Value → Shared → Prop}, Q ((0 : Int), 1, b) s → wpAny (model prog w) A.in1 (Builtin.Slice.sliceApplied (.ref sl) (pure (items.size : Int))) Q E s := fun {Q E} hq => by
    unfold Builtin.Slice.sliceApplied Builtin.Slice.sliceFields
    refine wpAny_bind (wpAny_bind (wpAny_field hos hds (x := .none) rfl (wpAny_bind (wpAny_field hos hds (x := .int b u) rfl (wpAny_bind (wpAny_field hos hds (x := .none) rfl (wpAny_pure ?_)))))))
    refine wpAny_bind (slicePart_none ?_)
    show wpAny _ _ (if ((1 : Int) == 0) = true then _ else _) _ _ s
    rw [if_neg (by decide)]
    refine wpAny_bind (slicePart_none (wpAny_bind (slicePart_int (wpAny_bind (wpAny_pure ?_)))))
    show wpAny _ _ (match Builtin.Slice.sliceAdjust none (some (b : Int)) 1 (items.size : Int) with | (lo, hi) => pure (lo, (1 : Int), Builtin.Slice.slicePlaces lo hi 1)) _ _ s
    have adj : Builtin.Slice.sliceAdjust none (some (b : Int)) 1 (items.size : Int) = ((0 : Int), (b : Int)) := by
      unfold Builtin.Slice.sliceAdjust
      have h1 : ¬ ((1 : Int) < 0) := by lia
      have h2 : ¬ ((b : Int) < 0) := by lia
      simp only [h1, h2, if_false]
      congr 1
      lia
    rw [adj]
    have pl : Builtin.Slice.slicePlaces (0 : Int) (b : Int) 1 = b := by
      unfold Builtin.Slice.slicePlaces
      have h1 : (1 : Int) > 0 := by lia
      simp only [h1, if_true, Int.ediv_one]
      split <;> lia
    show wpAny _ _ (pure ((0 : Int), (1 : Int), Builtin.Slice.slicePlaces (0 : Int) (b : Int) 1)) _ _ s
    rw [pl]
    exact wpAny_pure hq
  refine wpAny_bind (app ?_)
  show wpAny _ _ (if ((0 : Int) == 0 && (1 : Int) == 1 && b == items.size) = true then _ else _) _ _ s
  by_cases he : b = items.size
  · rw [if_pos (by simp [he])]
    have ex : wpAny (model prog w) A.in1 (Builtin.Tuple.tupleIsExact (.ref t)) (fun r s' => r = true ∧ s' = s) (fun _ _ => False) s := by
      unfold Builtin.Tuple.tupleIsExact
      exact wpAny_bind (wpAny_typeOf ht.typeIs (wpAny_pure ⟨by decide, rfl⟩))
    refine wpAny_bind (wpAny_mono ex (fun r s' hr => ?_) fun _ _ e => e.elim)
    obtain ⟨rfl, rfl⟩ := hr
    rw [if_pos rfl]
    refine wpAny_bind (wpAny_rule ?_)
    exact wpAny_pure ⟨_, rfl, wpAny_pure (h t _ (fun _ _ e => e) (.inl ⟨rfl, he, rfl⟩))⟩
  · rw [if_neg (by simp [he])]
    have pk : ((List.range b).filterMap fun (k : Nat) => items[((0 : Int) + (k : Int) * 1).toNat]?).toArray = (items.toList.take b).toArray := by
      have e : (fun (k : Nat) => items[((0 : Int) + (k : Int) * 1).toNat]?) = fun k => items[0 + k]? := by
        funext k
        have : ((0 : Int) + (k : Int) * 1).toNat = 0 + k := by lia
        rw [this]
      rw [e]
      have := pick_run items 0 b
      rw [List.filterMap_map] at this
      have e2 : ((fun x => items[x]?) ∘ fun x => 0 + x) = fun k => items[0 + k]? := rfl
      rw [e2] at this
      rw [this, List.drop_zero]
    show wpAny _ _ (Builtin.Tuple.tupleExact ((List.range b).filterMap fun (k : Nat) => items[((0 : Int) + (k : Int) * 1).toNat]?).toArray >>= fun r => ret r) _ _ s
    rw [pk]
    have fin := h s.heap.objs.size (s.heap.push { cls := .type "tuple", data := .seq (items.toList.take b).toArray }) (fun a o e => Heap.get?_push_of_some _ e) (.inr ⟨none_at_size _, Heap.get?_push_size _ rfl⟩)
    first
      | exact wpAny_bind (m := Builtin.Tuple.tupleExact _) (wpAny_newObj_type (wpAny_pure ⟨_, rfl, wpAny_pure fin⟩) htake)
      | exact wpAny_bind (m := Builtin.Tuple.tupleExact _) (wpAny_newObj_type (wpAny_bind (wpAny_pure (wpAny_pure ⟨_, rfl, wpAny_pure fin⟩))) htake)
      | exact wpAny_bind (wpAny_bind (m := Builtin.Tuple.tupleExact _) (wpAny_newObj_type (wpAny_pure (wpAny_pure ⟨_, rfl, wpAny_pure fin⟩)) htake))
      | exact wpAny_bind (wpAny_bind (m := Builtin.Tuple.tupleExact _) (wpAny_newObj_type (wpAny_pure ⟨_, rfl, wpAny_pure fin⟩) htake))
end
end Mine

namespace Mine

section
variable {c : Cx} {n : Nat} {sc : List (Str × NameKind)}

-- slices
theorem eval_Slice_upto {prog : Program} {w : World} {A : Around} {s : Shared} {env : Env} {u : Expr} {p : Pos} {Q : Value → Shared → Prop}
    (h : wpAny (model prog w) A (eval u env) (fun v s₁ => Q (.ref s₁.heap.objs.size) { s₁ with heap := s₁.heap.push { cls := .type "slice", data := .fields #[.none, v, .none] } }) (fun _ _ => False) s) :
    wpAny (model prog w) A (eval (.Slice none (some u) none p) env) Q (fun _ _ => False) s := by
  rw [arm_eval_Slice]
  refine wpAny_bind (m := valueOrNone (evalOpt none env)) (wpAny_pure ?_)
  refine wpAny_bind (wpAny_holding (wpAny_mono h (fun v s₁ h₁ => ?_) fun _ _ e => e))
  refine wpAny_bind (wpAny_holding (wpAny_pure (Q := fun v s' => wpAny (model prog w) A (newFields "slice" [.none, _, v]) Q (fun _ _ => False) s') ?_))
  exact wpAny_newObj_type h₁
theorem eval_Slice_from {prog : Program} {w : World} {A : Around} {s : Shared} {env : Env} {u : Expr} {p : Pos} {Q : Value → Shared → Prop}
    (h : wpAny (model prog w) A (eval u env) (fun v s₁ => Q (.ref s₁.heap.objs.size) { s₁ with heap := s₁.heap.push { cls := .type "slice", data := .fields #[v, .none, .none] } }) (fun _ _ => False) s) :
    wpAny (model prog w) A (eval (.Slice (some u) none none p) env) Q (fun _ _ => False) s := by
  rw [arm_eval_Slice]
  refine wpAny_bind (m := valueOrNone (evalOpt (some u) env)) (wpAny_mono h (fun v s₁ h₁ => ?_) fun _ _ e => e)
  refine wpAny_bind (wpAny_holding (wpAny_pure (Q := fun x s' => wpAny (model prog w) A (holding [v, x] (valueOrNone (evalOpt none env)) >>= fun y => newFields "slice" [v, x, y]) Q (fun _ _ => False) s') ?_))
  refine wpAny_bind (wpAny_holding (wpAny_pure (Q := fun y s' => wpAny (model prog w) A (newFields "slice" [v, .none, y]) Q (fun _ _ => False) s') ?_))
  exact wpAny_newObj_type h₁

noncomputable def onUpto (a b : V) (k : V → Prop) : Prop := match a with
  | .lst l => onInt b fun j => 0 ≤ j ∧ k (.lst (l.take j.toNat))
  | .tup l => onInt b fun j => (1 ≤ j ∧ j ≤ l.length) ∧ k (.tup (l.take j.toNat))
  | _ => False
theorem e_upto {value u : Expr} {p pos : Pos} {Tl Tr : St → (V → St → Prop) → Prop} (hl : SemE c n sc value Tl) (hr : SemE c n sc u Tr) :
    SemE c n sc (.Subscript value (.Slice none (some u) none p) pos) (fun st P => Tl st fun a st1 => Tr st1 fun b st2 => onUpto a b fun v => P v st2) := by
  intro A X F s st P Q rm ok g ht hq
  refine Subscript_ (hl A X F s st _ _ rm ok g ht fun F1 h1 tk1 x a st1 g1 L1 r1 p1 => ?_)
  refine eval_Slice_upto (hr A X F1 _ st1 _ _ rm ok g1 p1 fun F2 h2 tk2 y b st2 g2 L2 r2 p2 => ?_)
  dsimp only
  obtain ⟨h3, e3⟩ : ∃ h3, h3 = h2.push { cls := .type "slice", data := .fields #[.none, y, .none] } := ⟨_, rfl⟩
  have up3 : ∀ b o, h2.get? b = some o → h3.get? b = some o := fun b o e => by rw [e3]; exact Heap.get?_push_of_some _ e
  have sl : h3.IsSliceOf h2.objs.size .none y .none := by rw [e3]; exact Heap.IsSliceOf.new ..
  rw [← e3]
  have r1' := r1.later L2
  cases a with
  | lst l =>
    obtain ⟨j, e1, p3⟩ := onInt_elim p2
    clear p2
    subst e1
    have p2 := p3
    clear p3
    obtain ⟨a1, xs, rfl, f, q, rr, z⟩ := r1'
    obtain ⟨t, rfl⟩ : ∃ t, y = .int j t := r2
    obtain ⟨j0, hp⟩ := p2
    have hj : j = ((j.toNat : Nat) : Int) := by lia
    have q3 : PLst h3 a1 xs := q.at fun o e => up3 _ o e
    refine tail_any (s := { s with heap := h3, toks := tk2 }) (T := "list") (ops := [.ref h2.objs.size, .ref a1]) q3.isList.typeIs slot_list_getitem.lookup ?_ rfl
    refine wpAny_getItem_list_slice (s := { s with heap := h3, toks := tk2 }) (lo := none) (hi := some j) (st := none) q3.isList sl .none (.int j t) .none (by simp) ?_ (hsz := by simp only [List.size_toArray]; rw [← rr.length]; exact z)
    have pk : slicePick xs.toArray none (some j) none = (xs.take j.toNat).toArray := by have := slicePick_upto' xs.toArray j.toNat; rw [← hj] at this; rw [this]
    obtain ⟨h4, e4⟩ : ∃ h4, h4 = h3.push { cls := .type "list", data := .seq (slicePick xs.toArray none (some j) none) } := ⟨_, rfl⟩
    have up4 : ∀ b o, h2.get? b = some o → h4.get? b = some o := fun b o e => by rw [e4]; exact Heap.get?_push_of_some _ (up3 b o e)
    have hn : h2.get? h3.objs.size = none := ge_none (show h2.objs.size ≤ h3.objs.size by rw [e3, Heap.size_push]; exact Nat.le_succ _)
    obtain ⟨g4, L4⟩ := g2.grow ok up4 (fun b => b = h3.objs.size) (fun b e => by subst e; exact ⟨hn, _, by rw [e4]; exact Heap.get?_push_size _ rfl⟩)
    have := hq _ h4 tk2 (.ref h3.objs.size) (.lst (l.take j.toNat)) st2 g4 ((L1.trans L2).trans L4) (rep_lst (xs := xs.take j.toNat) (.inr rfl) ⟨0, by rw [e4, pk]; exact Heap.get?_push_size _ rfl⟩ ((rr.later L4).take _) (by simp; lia)) hp
    rw [e4] at this
    exact this
  | tup l =>
    obtain ⟨j, e1, p3⟩ := onInt_elim p2
    clear p2
    subst e1
    have p2 := p3
    clear p3
    obtain ⟨a1, xs, rfl, f, q, rr, z⟩ := r1'
    obtain ⟨t, rfl⟩ : ∃ t, y = .int j t := r2
    obtain ⟨⟨j1, j2⟩, hp⟩ := p2
    have hj : j = ((j.toNat : Nat) : Int) := by lia
    have q3 : PTup h3 a1 xs := q.at fun o e => up3 _ o e
    have hlen := rr.length
    rw [hj] at sl
    refine tail_any (s := { s with heap := h3, toks := tk2 }) (T := "tuple") (ops := [.ref h2.objs.size, .ref a1]) q3.isTuple.typeIs PySem.F.slot_tuple_getitem.lookup ?_ rfl
    refine getItem_tuple_upto (s := { s with heap := h3, toks := tk2 }) q3.isTuple sl (b := j.toNat) (u := t) (by lia) (by simp; lia) (fun r h4 up hr => ?_) (by simp only [List.size_toArray]; rw [← hlen]; exact z)
    rcases hr with ⟨rfl, hb, e⟩ | ⟨hn, e⟩
    · have e' : h4 = h3 := e
      subst e'
      have g3 : Good c X F2 h4 st2 := g2.keepAll ok up3
      have L3 : Later F2 h2 F2 h4 := Later.keepAll up3
      have ht : l.take j.toNat = l := List.take_of_length_le (by simp at hb; lia)
      exact hq F2 h4 tk2 (.ref r) (.tup (l.take j.toNat)) st2 g3 ((L1.trans L2).trans L3) (by rw [ht]; exact rep_tup f q3 (rr.later L3) z) hp
    · have hn2 : h2.get? r = none := by
        cases q : h2.get? r with
        | none => rfl
        | some o => have : h3.get? r = none := hn; rw [up3 _ _ q] at this; cases this
      obtain ⟨g4, L4⟩ := g2.grow ok (h' := h4) (fun b o e => up b o (up3 b o e)) (fun b => b = r) (fun b e' => by subst e'; exact ⟨hn2, _, e⟩)
      exact hq _ h4 tk2 (.ref r) (.tup (l.take j.toNat)) st2 g4 ((L1.trans L2).trans L4) (rep_tup (xs := xs.take j.toNat) (.inr rfl) ⟨0, by simpa using e⟩ ((rr.later L4).take _) (by simp; lia)) hp
  | _ => exact False.elim p2

noncomputable def onFrom (a b : V) (k : V → Prop) : Prop := onLst a fun l => onInt b fun j => 0 ≤ j ∧ k (.lst (l.drop j.toNat))
theorem e_from {value u : Expr} {p pos : Pos} {Tl Tr : St → (V → St → Prop) → Prop} (hl : SemE c n sc value Tl) (hr : SemE c n sc u Tr) :
    SemE c n sc (.Subscript value (.Slice (some u) none none p) pos) (fun st P => Tl st fun a st1 => Tr st1 fun b st2 => onFrom a b fun v => P v st2) := by
  intro A X F s st P Q rm ok g ht hq
  refine Subscript_ (hl A X F s st _ _ rm ok g ht fun F1 h1 tk1 x a st1 g1 L1 r1 p1 => ?_)
  refine eval_Slice_from (hr A X F1 _ st1 _ _ rm ok g1 p1 fun F2 h2 tk2 y b st2 g2 L2 r2 p2 => ?_)
  dsimp only
  obtain ⟨h3, e3⟩ : ∃ h3, h3 = h2.push { cls := .type "slice", data := .fields #[y, .none, .none] } := ⟨_, rfl⟩
  have up3 : ∀ b o, h2.get? b = some o → h3.get? b = some o := fun b o e => by rw [e3]; exact Heap.get?_push_of_some _ e
  have sl : h3.IsSliceOf h2.objs.size y .none .none := by rw [e3]; exact Heap.IsSliceOf.new ..
  rw [← e3]
  have r1' := r1.later L2
  obtain ⟨l, e0, p3⟩ := onLst_elim p2
  obtain ⟨j, e1, p4⟩ := onInt_elim p3
  clear p2 p3
  subst e0
  subst e1
  have p2 := p4
  clear p4
  obtain ⟨a1, xs, rfl, f, q, rr, z⟩ := r1'
  obtain ⟨t, rfl⟩ : ∃ t, y = .int j t := r2
  obtain ⟨j0, hp⟩ := p2
  have hj : j = ((j.toNat : Nat) : Int) := by lia
  have q3 : PLst h3 a1 xs := q.at fun o e => up3 _ o e
  refine tail_any (s := { s with heap := h3, toks := tk2 }) (T := "list") (ops := [.ref h2.objs.size, .ref a1]) q3.isList.typeIs slot_list_getitem.lookup ?_ rfl
  refine wpAny_getItem_list_slice (s := { s with heap := h3, toks := tk2 }) (lo := some j) (hi := none) (st := none) q3.isList sl (.int j t) .none .none (by simp) ?_ (hsz := by simp only [List.size_toArray]; rw [← rr.length]; exact z)
  have pk : slicePick xs.toArray (some j) none none = (xs.drop j.toNat).toArray := by have := slicePick_from' xs.toArray j.toNat; rw [← hj] at this; rw [this]
  obtain ⟨h4, e4⟩ : ∃ h4, h4 = h3.push { cls := .type "list", data := .seq (slicePick xs.toArray (some j) none none) } := ⟨_, rfl⟩
  have up4 : ∀ b o, h2.get? b = some o → h4.get? b = some o := fun b o e => by rw [e4]; exact Heap.get?_push_of_some _ (up3 b o e)
  have hn : h2.get? h3.objs.size = none := ge_none (show h2.objs.size ≤ h3.objs.size by rw [e3, Heap.size_push]; exact Nat.le_succ _)
  obtain ⟨g4, L4⟩ := g2.grow ok up4 (fun b => b = h3.objs.size) (fun b e => by subst e; exact ⟨hn, _, by rw [e4]; exact Heap.get?_push_size _ rfl⟩)
  have := hq _ h4 tk2 (.ref h3.objs.size) (.lst (l.drop j.toNat)) st2 g4 ((L1.trans L2).trans L4) (rep_lst (xs := xs.drop j.toNat) (.inr rfl) ⟨0, by rw [e4, pk]; exact Heap.get?_push_size _ rfl⟩ ((rr.later L4).drop _) (by simp; lia)) hp
  rw [e4] at this
  exact this

-- lists: + and *
noncomputable def bAdd2 (a b : V) (st : St) (k : V → Prop) : Prop := match a, b with
  | .lst l, .lst m => l.length + m.length ≤ sizeLine ∧ k (.lst (l ++ m))
  | a, b => bAdd a b st k
theorem b_add2 : Pure2 c n (binaryOp .Add) bAdd2 := by
  intro sc A X F s st k Q a b x y rm ok g ra rb hf hq
  unfold bAdd2 at hf
  split at hf
  · rename_i l m
    obtain ⟨a1, xs, rfl, f1, ⟨n1, p1⟩, r1, z1⟩ := ra
    obtain ⟨a2, ys, rfl, f2, ⟨n2, p2⟩, r2, z2⟩ := rb
    obtain ⟨hz, hk⟩ := hf
    refine PySem.P.add_list p1 p2 ?_ (hsz := by simp only [List.size_toArray]; rw [← r1.length, ← r2.length]; exact hz)
    obtain ⟨g', L⟩ := g.grow ok (h' := s.heap.push { cls := .type "list", data := .seq (xs.toArray ++ ys.toArray) }) (fun b o e => Heap.get?_push_of_some _ e) (fun z => z = s.heap.objs.size) (fun a e => by subst e; exact ⟨none_at_size _, _, Heap.get?_push_size _ rfl⟩)
    exact hq _ _ s.toks _ _ g' L (rep_lst (xs := xs ++ ys) (.inr rfl) ⟨0, by simpa using Heap.get?_push_size s.heap rfl⟩ ((r1.later L).append (r2.later L)) (by simpa using hz)) hk
  · exact b_add sc A X F s st k Q a b x y rm ok g ra rb hf hq

noncomputable def bMul2 (a b : V) (st : St) (k : V → Prop) : Prop := match a, b with
  | .lst [v], .int j => (0 ≤ j ∧ j ≤ 1000) ∧ k (.lst (List.replicate j.toNat v))
  | a, b => bMul a b st k
theorem foldl_rep' (v : Value) : ∀ (k : Nat) (acc : Array Value), List.foldl (fun x1 x2 => x1 ++ x2) acc (List.replicate k #[v]) = acc ++ (List.replicate k v).toArray
  | 0, acc => by simp
  | k + 1, acc => by
    rw [List.replicate_succ, List.foldl_cons, foldl_rep' v k]
    apply Array.ext'
    simp [List.replicate_succ]
theorem RepL.rep {ad : Ob → Addr} {F : Addr → Prop} {h : Heap} {v : V} {x : Value} (r : Rep ad F h v x) : ∀ k : Nat, RepL ad F h (List.replicate k v) (List.replicate k x)
  | 0 => rfl
  | k + 1 => ⟨x, _, by rw [List.replicate_succ], r, RepL.rep r k⟩
theorem b_mul2 : Pure2 c n (binaryOp .Mult) bMul2 := by
  intro sc A X F s st k Q a b x y rm ok g ra rb hf hq
  unfold bMul2 at hf
  split at hf
  · rename_i v j
    obtain ⟨⟨j0, j1⟩, hk⟩ := hf
    obtain ⟨a1, xs, rfl, f1, ⟨n1, p1⟩, r1, z1⟩ := ra
    obtain ⟨u, rfl⟩ : ∃ t, y = .int j t := rb
    obtain ⟨x, r', rfl, rx, e0⟩ := r1
    cases e0
    have hz : sizeLine = 16777216 := rfl
    have hl : s.heap.get? a1 = some { cls := .type "list", dict := none, data := .seq [x].toArray n1, slots := #[] } := p1
    refine wpAny_binaryOp_repeat_ref (T := "list") (U := "int") (by decide) ⟨_, hl, rfl⟩ (fun s' => typeIs_int s' j u) noFill_list_mul PySem.F.fills_int_mul PySem.F.slot_int_rmul repeat_list PySem.F.slot_int_index.lookup
      (call_meets PySem.F.slot_int_rmul (typeIs_int s j u) PySem.F.entry_int_rmul (PySem.F.args_int_rmul_2 _ _) (int___rmul___int_list j u a1 [x].toArray n1)
        ⟨hl, rfl, ⟨_, hl, rfl⟩, call_meets PySem.F.slot_list_mul ⟨_, hl, rfl⟩ PySem.F.entry_list_mul (PySem.F.args_list_mul_2 _ _)
          (AutoListH.list___mul___list_int_3 a1 [x].toArray n1 j u (by simp [Builtin.List.listFitsIndex]; lia) (by show ¬ (1 : Nat) * j.toNat > _; lia) (by simp [Builtin.List.listTooLong, sizeLine]; lia))
          ⟨hl, ?_⟩⟩)
    obtain ⟨g', L⟩ := g.grow ok (h' := s.heap.push { cls := .type "list", data := .seq (List.replicate j.toNat x).toArray }) (fun b o e => Heap.get?_push_of_some _ e) (fun z => z = s.heap.objs.size) (fun a e => by subst e; exact ⟨none_at_size _, _, Heap.get?_push_size _ rfl⟩)
    have fin := hq _ _ s.toks (.ref s.heap.objs.size) _ g' L (rep_lst (xs := List.replicate j.toNat x) (.inr rfl) ⟨0, Heap.get?_push_size _ rfl⟩ (RepL.rep (rx.later L) _) (by simp; lia)) hk
    have e : List.foldl (fun x1 x2 => x1 ++ x2) #[] (List.replicate (if ([x].toArray).isEmpty = true then 0 else j.toNat) [x].toArray) = (List.replicate j.toNat x).toArray := by
      have := foldl_rep' x j.toNat #[]
      simpa using this
    rw [← e] at fin
    exact fin
  · exact b_mul sc A X F s st k Q a b x y rm ok g ra rb hf hq
end
end Mine

namespace Mine

noncomputable def St.setOwn (st : St) (x : Str) (o : Own) : St := { loc := fun y => if y = x then none else st.loc y, own := o, g := st.g }

section
variable {c : Cx} {n : Nat} {sc : List (Str × NameKind)} {X : Act} {F : Addr → Prop} {h h' : Heap} {st : St}

theorem Good.storedOwn {x : Str} {z : Addr} {u : Value} {o : Own} (R : Good c X F h st) (ok : ActOk c sc X) (hs : Heap.SameBut z h h')
    (zF : ¬ F z) (zg : ¬ GM c z) (z0 : X.h₀.get? z = none) (zp : ∀ p ∈ X.pins, p.1 ≠ z)
    (ns : ∃ m, h'.Ns X.env.locals m) (cells : ∀ y a, X.env.cells.lookup y = some a → ∃ w, h'.IsCell a w)
    (old : ∀ y w, y ≠ x → Stored X.env h y w → Stored X.env h' y w) (ho : OwnOk c X F h' o) (hn : ∀ y, o.isAt y = true → y = x) : Good c X F h' (st.setOwn x o) ∧ Later F h F h' := by
  have L : Later F h F h' := ⟨fun _ f => f, fun a o f e => (hs.2 a fun q => zF (q ▸ f)).trans e⟩
  refine ⟨?_, L⟩
  exact {
    stat := R.stat.later L
    g := R.g.same L (fun a m o e => (hs.2 a fun q => zg (q ▸ m)).trans e) R.g.nf
    froz := fun a f => by obtain ⟨o, e⟩ := R.froz a f; exact ⟨o, L.2 a o f e⟩
    fnew := R.fnew
    kept := fun a o e m => (hs.2 a fun q => by rw [q, z0] at e; cases e).trans (R.kept a o e m)
    ns := ns
    LF := R.LF
    cells := fun y a l => ⟨cells y a l, (R.cells y a l).2⟩
    pins := fun p hp => ⟨(hs.2 _ (zp p hp)).trans (R.pins p hp).1, (R.pins p hp).2⟩
    loc := fun y w e => by
      by_cases hy : y = x
      · simp [St.setOwn, hy] at e
      · simp only [St.setOwn, if_neg hy] at e
        obtain ⟨q, S, r⟩ := R.loc y w e
        exact ⟨q, old y q hy S, r.later L⟩
    own := ho
    noloc := fun y hy => by
      show (if y = x then none else st.loc y) = none
      rw [if_pos (hn y hy)] }

/-- storing a new own list or dict under a name -/
theorem store_own {A : Around} {s : Shared} {x : Str} {a : Addr} {o : Own} {Q : Unit → Shared → Prop} {E : Value → Shared → Prop} {M : Model} (R : Good c X F s.heap st) (ok : ActOk c sc X) (hx : sc.lookup x = some .local ∨ sc.lookup x = some .cell)
    (aL : a ≠ X.env.locals) (aC : ∀ y b, X.env.cells.lookup y = some b → b ≠ a)
    (ho : ∀ h', (∀ o, s.heap.get? a = some o → h'.get? a = some o) → Stored X.env h' x (.ref a) → Later F s.heap F h' → OwnOk c X F h' o) (hn : ∀ y, o.isAt y = true → y = x)
    (hq : ∀ h' tk, Good c X F h' (st.setOwn x o) → Later F s.heap F h' → Q () { s with heap := h', toks := tk }) : wpAny M A (storeName X.env x (.ref a)) Q E s := by
  have hp : (X.env.scope.kind == .class || (X.env.scope.kind == .module && X.env.locals != X.env.globals)) = false := by rw [ok.kind]; rfl
  rcases hx with hx | hx
  · have hk := ok.loc x hx
    obtain ⟨m, hm⟩ := R.ns
    refine wpAny_storeName_local hk hm (fun h' hn' hs => ?_) hp
    have L : Later F s.heap F h' := ⟨fun _ f => f, fun a o f e => (hs.2 a fun q => R.LF (q ▸ f)).trans e⟩
    have := R.storedOwn (x := x) (z := X.env.locals) (u := .ref a) ok hs R.LF ok.Lgm ok.Lnew (fun p hp => (ok.pin p hp).1) 
      ⟨_, hn'⟩ (fun y a l => ?_) (fun y w hy S => ?_) (ho h' (fun o e => (hs.2 a aL).trans e) (.inl ⟨hk, _, hn', by simp⟩) L) hn
    · exact hq h' _ this.1 this.2
    · obtain ⟨⟨w, o, e, d⟩, _⟩ := R.cells y a l
      exact ⟨w, o, (hs.2 a (ok.cgm y a l).2).trans e, d⟩
    · rcases S with ⟨k, m', n', e⟩ | ⟨k, a, l, o, e, d⟩
      · refine .inl ⟨k, _, hn', ?_⟩
        rw [if_neg hy, ns_uniq hm n']; exact e
      · exact .inr ⟨k, a, l, o, (hs.2 a (ok.cgm y a l).2).trans e, d⟩
  · obtain ⟨hk, b, hb, b0⟩ := ok.cell x hx
    obtain ⟨⟨w₀, hc⟩, bF⟩ := R.cells x b hb
    refine wpAny_storeName_cell ok.kind hk hb hc fun h' hc' hs => ?_
    have L : Later F s.heap F h' := ⟨fun _ f => f, fun a o f e => (hs.2 a fun q => bF (q ▸ f)).trans e⟩
    have := R.storedOwn (x := x) (z := b) (u := .ref a) ok hs bF (ok.cgm x b hb).1 b0 (fun p hp => (ok.pin p hp).2.2 x b hb)
      ?_ (fun y a l => ?_) (fun y w hy S => ?_) (ho h' (fun o e => (hs.2 a (aC x b hb).symm).trans e) (.inr ⟨.inl hk, b, hb, hc'⟩) L) hn
    · exact hq h' s.toks this.1 this.2
    · obtain ⟨m, hm⟩ := R.ns
      exact ⟨m, hm.sameBut hs (ok.cgm x b hb).2.symm⟩
    · by_cases hab : a = b
      · subst hab; exact ⟨_, hc'⟩
      · obtain ⟨⟨w, o, e, d⟩, _⟩ := R.cells y a l
        exact ⟨w, o, (hs.2 a hab).trans e, d⟩
    · rcases S with ⟨k, m', n', e⟩ | ⟨k, a, l, o, e, d⟩
      · exact .inl ⟨k, m', n'.sameBut hs (ok.cgm x b hb).2.symm, e⟩
      · exact .inr ⟨k, a, l, o, (hs.2 a fun q => hy (ok.inj y x b (q ▸ l) hb)).trans e, d⟩

/-- «x = [..]»: a list of one's own -/
theorem s_ownlst {x : Str} {es : List Expr} {px lp pos : Pos} {T : St → (List V → St → Prop) → Prop} (he : SemA c n sc lp es T) (hx : sc.lookup x = some .local ∨ sc.lookup x = some .cell)
    (hs : ∀ env, env.kindOf x = some .local ∨ env.kindOf x = some .cell → env.scope.kind = .function → (sc.lookup x = some .cell → env.kindOf x = some .cell) → swapsWith (.List es lp) (some (.Name x px)) pos.line env = pure false) :
    SemS c n sc (.Assign [.Name x px] (.List es lp) pos) (fun st P => T st fun vs st1 => vs.length ≤ sizeLine ∧ ∀ a, P .next (st1.setOwn x (.lst x a vs true))) := by
  intro A X F s st P Q rm ok g ht hq
  refine wpAny_Assign_Name (List_ (he A X F s st _ _ rm ok g ht fun F1 h1 tk1 xs vs st1 g1 L1 r1 p1 => ?_)) (hs _ (hx.imp (ok.loc x) (fun q => (ok.cell x q).1)) ok.kind fun q => (ok.cell x q).1)
  obtain ⟨z, p1⟩ := p1
  refine wpAny_newObj_type ?_ (by show xs.toArray.size ≤ sizeLine; rw [List.size_toArray, ← r1.length]; exact z)
  dsimp only
  obtain ⟨h2, e2⟩ : ∃ h2, h2 = h1.push { cls := .type "list", data := .seq xs.toArray } := ⟨_, rfl⟩
  have up : ∀ b o, h1.get? b = some o → h2.get? b = some o := fun b o e => by rw [e2]; exact Heap.get?_push_of_some _ e
  have hnew : h1.get? h1.objs.size = none := none_at_size _
  have ha : h2.get? h1.objs.size = some { cls := .type "list", data := .seq xs.toArray } := by rw [e2]; exact Heap.get?_push_size _ rfl
  rw [← e2]
  obtain ⟨a, ea⟩ : ∃ a, a = h1.objs.size := ⟨_, rfl⟩
  rw [← ea] at hnew ha ⊢
  have g2 : Good c X F1 h2 st1 := g1.keepAll ok up
  have fre := g1.free (fr := [a]) fun b hb => by rw [List.mem_singleton.mp hb]; exact hnew
  have aF : ¬ F1 a := fun f => by obtain ⟨o, e⟩ := g1.froz a f; rw [hnew] at e; cases e
  have aC : ∀ y b, X.env.cells.lookup y = some b → b ≠ a := fun y b l q => fre.cell a (List.mem_singleton.mpr rfl) y b l q.symm
  refine store_own (o := .lst x a vs true) (s := { s with heap := h2, toks := tk1 }) g2 ok hx (fre.loc a (List.mem_singleton.mpr rfl)) aC (fun h' ka S L => ?_) (fun y hy => by simpa [Own.isAt] using (by simpa [Own.isAt] using hy : x = y).symm)
    fun h3 tk3 g3 L3 => hq F1 h3 tk3 .next .next _ g3 ((L1.trans (Later.keepAll up)).trans L3) rfl (p1 a)
  have pn : ∀ p ∈ X.pins, p.1 ≠ a := fun p hp q => fre.pin p hp (by rw [q]; exact List.mem_singleton.mpr rfl)
  exact ⟨xs, S, aF, fre.gm a (List.mem_singleton.mpr rfl), fre.loc a (List.mem_singleton.mpr rfl), aC, ⟨0, ka _ ha⟩, (r1.later (Later.keepAll up)).later L, z, pn, fun _ => ⟨fre.old a (List.mem_singleton.mpr rfl), fre.gm a (List.mem_singleton.mpr rfl), pn⟩⟩

/-- «x = {}» -/
theorem s_owndct {x : Str} {px lp pos : Pos} (hx : sc.lookup x = some .local ∨ sc.lookup x = some .cell)
    (hs : ∀ env, env.kindOf x = some .local ∨ env.kindOf x = some .cell → env.scope.kind = .function → (sc.lookup x = some .cell → env.kindOf x = some .cell) → swapsWith (.Dict [] [] lp) (some (.Name x px)) pos.line env = pure false) :
    SemS c n sc (.Assign [.Name x px] (.Dict [] [] lp) pos) (fun st P => ∀ a, P .next (st.setOwn x (.dct x a []))) := by
  intro A X F s st P Q rm ok g ht hq
  refine wpAny_Assign_Name (wpAny_Dict_empty ?_) (hs _ (hx.imp (ok.loc x) (fun q => (ok.cell x q).1)) ok.kind fun q => (ok.cell x q).1)
  have hd := Heap.DictOf.new (knd := intKind c.prog c.w) s.heap
  have sysl := modules_low g.stat.lim.2
  obtain ⟨h2, e2⟩ : ∃ h2, h2 = s.heap.push { cls := .type "dict", data := .dict #[] } := ⟨_, rfl⟩
  have up : ∀ b o, s.heap.get? b = some o → h2.get? b = some o := fun b o e => by rw [e2]; exact Heap.get?_push_of_some _ e
  have hnew : s.heap.get? s.heap.objs.size = none := none_at_size _
  rw [← e2] at hd ⊢
  obtain ⟨a, ea⟩ : ∃ a, a = s.heap.objs.size := ⟨_, rfl⟩
  rw [← ea] at hnew hd sysl ⊢
  have g2 : Good c X F h2 st := g.keepAll ok up
  have fre := g.free (fr := [a]) fun b hb => by rw [List.mem_singleton.mp hb]; exact hnew
  have aF : ¬ F a := fun f => by obtain ⟨o, e⟩ := g.froz a f; rw [hnew] at e; cases e
  have aC : ∀ y b, X.env.cells.lookup y = some b → b ≠ a := fun y b l q => fre.cell a (List.mem_singleton.mpr rfl) y b l q.symm
  refine store_own (o := .dct x a []) (s := { s with heap := h2 }) g2 ok hx (fre.loc a (List.mem_singleton.mpr rfl)) aC (fun h' ka S L => ?_) (fun y hy => by simpa [Own.isAt] using (by simpa [Own.isAt] using hy : x = y).symm)
    fun h3 tk3 g3 L3 => hq F h3 tk3 .next .next _ g3 ((Later.keepAll up).trans L3) rfl (ht a)
  have pn : ∀ p ∈ X.pins, p.1 ≠ a := fun p hp q => fre.pin p hp (by rw [q]; exact List.mem_singleton.mpr rfl)
  exact ⟨S, aF, fre.loc a (List.mem_singleton.mpr rfl), aC, ⟨DictOf.at hd ka, beq_eq_false_iff_ne.mpr (Nat.ne_of_gt sysl)⟩, fre.old a (List.mem_singleton.mpr rfl), fre.gm a (List.mem_singleton.mpr rfl), pn⟩

/-- the own list is handed over: from here on it never changes -/
theorem Good.freeze {x : Str} {a : Addr} {l : List V} (R : Good c X F h st) (ok : ActOk c sc X) (ho : st.own = .lst x a l true) :
    Good c X (fun b => F b ∨ b = a) h { loc := fun y => if y = x then some (.lst l) else st.loc y, own := .none, g := st.g } ∧ Later F h (fun b => F b ∨ b = a) h ∧ Stored X.env h x (.ref a) ∧ Rep c.ad (fun b => F b ∨ b = a) h (.lst l) (.ref a) := by
  have q := R.own
  rw [ho] at q
  obtain ⟨xs, S, nf, ng, nL, nc, p, r, z, pn, w⟩ := q
  have L : Later F h (fun b => F b ∨ b = a) h := ⟨fun _ f => .inl f, fun _ _ _ e => e⟩
  have rp : Rep c.ad (fun b => F b ∨ b = a) h (.lst l) (.ref a) := rep_lst (.inr rfl) p (r.later L) z
  have nf' : ∀ b, (F b ∨ b = a) → ¬ GM c b := fun b f => f.elim (R.g.nf b) fun e => e ▸ ng
  refine ⟨?_, L, S, rp⟩
  exact {
    stat := R.stat.later L
    g := R.g.same L (fun _ _ _ e => e) nf'
    froz := fun b f => f.elim (R.froz b) fun e => by obtain ⟨m, q⟩ := p; exact ⟨_, e ▸ q⟩
    fnew := fun b f => f.elim (R.fnew b) fun e => .inr (e ▸ (w rfl).1)
    kept := R.kept
    ns := R.ns
    LF := fun f => f.elim R.LF fun e => nL e.symm
    cells := fun y b l => ⟨(R.cells y b l).1, fun f => f.elim (R.cells y b l).2 fun e => nc y b l e⟩
    pins := fun p hp => ⟨(R.pins p hp).1, fun f => f.elim (R.pins p hp).2 fun e => pn p hp e⟩
    loc := fun y v e => by
      by_cases hy : y = x
      · subst hy; simp only [if_true, Option.some.injEq] at e; subst e; exact ⟨_, S, rp⟩
      · simp only [if_neg hy] at e
        obtain ⟨u, S', r'⟩ := R.loc y v e
        exact ⟨u, S', r'.later L⟩
    own := trivial
    noloc := fun y hy => by cases hy }

noncomputable def T_name2 (x : Str) (st : St) (P : V → St → Prop) : Prop := match st.loc x with
  | some v => P v st
  | none => match st.own with
    | .lst y _ l wr => if y = x ∧ wr = true then P (.lst l) { loc := fun z => if z = x then some (.lst l) else st.loc z, own := .none, g := st.g } else False
    | _ => False
theorem e_name2 {x : Str} {pos : Pos} (hd : (x == ("__debug__" : Str)) = false) (hn : (x == ("__classdict__" : Str)) = false) : SemE c n sc (.Name x pos) (T_name2 x) := by
  intro A X F s st P Q rm ok g ht hq
  unfold T_name2 at ht
  split at ht
  · rename_i v e
    obtain ⟨u, S, r⟩ := g.loc x v e
    exact wpAny_Name (load_stored ok.kind S (hq F s.heap s.toks u v st g (.refl _ _) r ht) hn) hd
  · split at ht
    · rename_i y a l wr ho
      have pq := if_elim ht
      clear ht
      obtain ⟨⟨rfl, rfl⟩, ht⟩ := pq
      obtain ⟨g', L, S, r⟩ := g.freeze ok ho
      exact wpAny_Name (load_stored ok.kind S (hq _ s.heap s.toks _ _ _ g' L r ht) hn) hd
    · exact ht.elim

noncomputable def onIntE (v : V) (k : Int → Prop) : Prop := match v with
  | .int j => k j
  | _ => False
/-- «x[e]» where x may be one's own list -/
noncomputable def T_subn (x : Str) (Tr : St → (V → St → Prop) → Prop) (st : St) (P : V → St → Prop) : Prop := match st.loc x with
  | some a => Tr st fun b st2 => onSub a b st2 fun v => P v st2
  | none => match st.own with
    | .lst y _ l _ => if y = x then (Tr st fun b st2 => st2.own = st.own ∧ onIntE b fun j => ∃ v, ix l j = some v ∧ P v st2) else False
    | _ => False
theorem e_subn {x : Str} {slice : Expr} {px pos : Pos} {Tr : St → (V → St → Prop) → Prop} (hr : SemE c n sc slice Tr) (hs : ∀ o i, subscripted slice false o i = operate [o, i] (getItem o i))
    (hd : (x == ("__debug__" : Str)) = false) (hn : (x == ("__classdict__" : Str)) = false) : SemE c n sc (.Subscript (.Name x px) slice pos) (T_subn x Tr) := by
  intro A X F s st P Q rm ok g ht hq
  unfold T_subn at ht
  split at ht
  · rename_i v e
    exact e_sub (e_name hd hn) hr hs A X F s st P Q rm ok g (by unfold T2 T_name; rw [e]; exact ht) hq
  · split at ht
    · rename_i y a l wr ho
      have pq := if_elim ht
      clear ht
      obtain ⟨rfl, ht⟩ := pq
      have q := g.own
      rw [ho] at q
      obtain ⟨xs, S, _⟩ := q
      refine Subscript_ (wpAny_Name (load_stored ok.kind S ?_ hn) hd)
      refine hr A X F _ st _ _ rm ok g ht fun F2 h2 tk2 u b st2 g2 L2 r2 p2 => ?_
      obtain ⟨ho2, p2⟩ := p2
      unfold onIntE at p2
      split at p2
      · rename_i j
        obtain ⟨v, hv, hp⟩ := p2
        obtain ⟨t, rfl⟩ : ∃ t, u = .int j t := r2
        have q := g2.own
        rw [ho2, ho] at q
        obtain ⟨xs, S, nf, ng, nL, nc, p, r, z, pn, w⟩ := q
        obtain ⟨i, w', h1, h2', h3⟩ := r.ix hv
        exact tail_any (s := { s with heap := h2, toks := tk2 }) p.isList.typeIs slot_list_getitem.lookup (getItem_lst (c := c) p (by rw [← r.length]; exact z) h1 h2' (hq F2 h2 tk2 _ v st2 g2 L2 h3 hp)) (hs _ _)
      · exact p2.elim
    · exact ht.elim
end
end Mine

namespace Mine

section
variable {c : Cx} {n : Nat} {sc : List (Str × NameKind)} {X : Act} {F : Addr → Prop} {h h' : Heap} {st : St} {g : G}

theorem GRep.ne (R : GRep c F h g) (hon : On c.ad) : (c.ad .feed ≠ c.ad .kinds ∧ c.ad .feed ≠ c.ad .parts ∧ c.ad .feed ≠ c.ad .known ∧ c.ad .feed ≠ c.ad .numbers ∧ c.ad .kinds ≠ c.ad .parts ∧ c.ad .kinds ≠ c.ad .known ∧ c.ad .kinds ≠ c.ad .numbers ∧ c.ad .parts ≠ c.ad .known ∧ c.ad .parts ≠ c.ad .numbers ∧ c.ad .known ≠ c.ad .numbers) ∧
    (c.ad .feed ≠ c.ad .world ∧ c.ad .kinds ≠ c.ad .world ∧ c.ad .parts ≠ c.ad .world ∧ c.ad .known ≠ c.ad .world ∧ c.ad .numbers ≠ c.ad .world) := by
  have := (R.real hon).apart
  simp only [List.nodup_cons, List.mem_cons, List.not_mem_nil, or_false, not_or, not_false_eq_true, List.nodup_nil, and_true] at this
  obtain ⟨⟨a, b, d, e, w1⟩, ⟨f, i, j, w2⟩, ⟨k, l, w3⟩, ⟨m, w4⟩, w5⟩ := this
  exact ⟨⟨a, b, d, e, f, i, j, k, l, m⟩, w1, w2, w3, w4, w5⟩

theorem sb_later {z : Addr} (hs : Heap.SameBut z h h') (zF : ¬ F z) : Later F h F h' := ⟨fun _ f => f, fun a o f e => (hs.2 a fun q => zF (q ▸ f)).trans e⟩

theorem GRep.feed' {F' : Addr → Prop} (R : GRep c F h g) (hon : On c.ad) (L : Later F h F' h') (m : ∀ o, h.get? (c.ad .feed) = some o → h'.get? (c.ad .feed) = some o) :
    ∃ ca xs t, F' ca ∧ PLst h' ca xs ∧ RepL c.ad F' h' (g.cells.map .int) xs ∧ g.cells.length ≤ sizeLine ∧ h'.DictOf (PySem.strKind c.prog c.w) (c.ad .feed) [(Str.ofString "cells", .ref ca), (Str.ofString "at", .int g.at_ t)] :=
  let ⟨ca, xs, t, fi, p, r, z, d⟩ := (R.real hon).feed; ⟨ca, xs, t, L.1 _ fi, p.at fun o => L.2 _ o fi, r.later L, z, DictOf.at d m⟩

/-- one of the counted objects is written, the others stand -/
theorem GRep.upd {z : Addr} {g' : G} (R : GRep c F h g) (hz : GM c z) (hs : Heap.SameBut z h h')
    (world : (∀ o, h.get? (c.ad .world) = some o → h'.get? (c.ad .world) = some o) ∧ g'.inputs = g.inputs ∧ g'.ready = g.ready ∨ (g'.ready = true ∧ ∃ il xs, F il ∧ PLst h' il xs ∧ RepL c.ad F h' (g'.inputs.map .int) xs ∧ g'.inputs.length ≤ sizeLine ∧
      h'.DictOf (PySem.strKind c.prog c.w) (c.ad .world) [(Str.ofString "circuit", .ref (c.ad .circ)), (Str.ofString "binary", .ref (c.ad .bin)), (Str.ofString "numbers", .ref (c.ad .numbers)), (Str.ofString "inputs", .ref il)]))
    (feed : (∀ o, h.get? (c.ad .feed) = some o → h'.get? (c.ad .feed) = some o) ∧ g'.cells = g.cells ∧ g'.at_ = g.at_ ∨ ∃ ca xs t, F ca ∧ PLst h' ca xs ∧ RepL c.ad F h' (g'.cells.map .int) xs ∧ g'.cells.length ≤ sizeLine ∧ h'.DictOf (PySem.strKind c.prog c.w) (c.ad .feed) [(Str.ofString "cells", .ref ca), (Str.ofString "at", .int g'.at_ t)])
    (kinds : (∀ o, h.get? (c.ad .kinds) = some o → h'.get? (c.ad .kinds) = some o) ∧ g'.kinds = g.kinds ∨ ∃ xs, PLst h' (c.ad .kinds) xs ∧ RepL c.ad F h' (g'.kinds.map .str) xs ∧ g'.kinds.length ≤ sizeLine)
    (parts : (∀ o, h.get? (c.ad .parts) = some o → h'.get? (c.ad .parts) = some o) ∧ g'.parts = g.parts ∨ ∃ xs, PLst h' (c.ad .parts) xs ∧ RepL c.ad F h' (g'.parts.map fun l => .tup (l.map .int)) xs ∧ g'.parts.length ≤ sizeLine)
    (known : (∀ o, h.get? (c.ad .known) = some o → h'.get? (c.ad .known) = some o) ∧ g'.known = g.known ∨ ∃ xs, h'.DictOfH (tupleKind (intKind c.prog c.w)) (c.ad .known) xs ∧ KnRep F g'.known xs ∧ g'.known.length ≤ sizeLine)
    (numbers : (∀ o, h.get? (c.ad .numbers) = some o → h'.get? (c.ad .numbers) = some o) ∧ g'.numbers = g.numbers ∨ ∃ xs, PLst h' (c.ad .numbers) xs ∧ RepL c.ad F h' g'.numbers xs ∧ g'.numbers.length ≤ sizeLine) (hdone : g'.done = g.done := by rfl) : GRep c F h' g' := by
  have zF : ¬ F z := fun f => R.nf z f hz
  have L : Later F h F h' := sb_later hs zF
  exact { nf := R.nf, real := fun hon => {
    circ := by obtain ⟨dx, od, f1, f2, e1, e2, q⟩ := (R.real hon).circ; exact ⟨dx, od, f1, f2, L.2 _ _ f1 e1, L.2 _ _ f2 e2, q⟩
    bin := by obtain ⟨dx, od, f1, f2, e1, e2, q⟩ := (R.real hon).bin; exact ⟨dx, od, f1, f2, L.2 _ _ f1 e1, L.2 _ _ f2 e2, q⟩
    world := world.elim (fun ⟨k, hi, hr⟩ => by rw [hi, hr]; exact (R.real hon).world.imp (fun ⟨e, d⟩ => ⟨e, DictOf.at d k⟩) fun ⟨e, il, xs, fi, p, r, z, d⟩ => ⟨e, il, xs, fi, p.at fun o => L.2 _ o fi, r.later L, z, DictOf.at d k⟩) fun x => .inr x
    feed := feed.elim (fun ⟨k, e1, e2⟩ => by rw [e1, e2]; exact R.feed' hon L k) id
    kinds := kinds.elim (fun ⟨k, e⟩ => by rw [e]; obtain ⟨xs, p, r, z⟩ := (R.real hon).kinds; exact ⟨xs, p.at k, r.later L, z⟩) id
    parts := parts.elim (fun ⟨k, e⟩ => by rw [e]; obtain ⟨xs, p, r, z⟩ := (R.real hon).parts; exact ⟨xs, p.at k, r.later L, z⟩) id
    known := known.elim (fun ⟨k, e⟩ => by rw [e]; obtain ⟨xs, p, r, z⟩ := (R.real hon).known; exact ⟨xs, dictOfH_at p k (fun y hy o => L.2 _ o (r.froz y hy)), r, z⟩) id
    numbers := numbers.elim (fun ⟨k, e⟩ => by rw [e]; obtain ⟨xs, p, r, z⟩ := (R.real hon).numbers; exact ⟨xs, p.at k, r.later L, z⟩) id
    live := by rw [hdone]; exact (R.real hon).live
    apart := (R.real hon).apart
    nsys := (R.real hon).nsys } }

theorem Good.upd {z : Addr} {g' : G} (R : Good c X F h st) (ok : ActOk c sc X) (hz : GM c z) (hs : Heap.SameBut z h h') (hg : GRep c F h' g') : Good c X F h' { st with g := g' } ∧ Later F h F h' := by
  have L : Later F h F h' := sb_later hs fun f => R.g.nf z f hz
  exact ⟨R.move L hg (fun a f => let ⟨o, e⟩ := R.froz a f; ⟨o, L.2 a o f e⟩) (fun a f => .inl f) (fun a o e m => (hs.2 a fun q => m (q ▸ hz)).trans e) ok, L⟩

-- x.append(e)
theorem getMethod_lst {A : Around} {E : Value → Shared → Prop} {s : Shared} {name : Str} {id : String} {pl : Sem Bool} {l : Addr} {xs : List Value} {Q : Value × List Value → Shared → Prop} (slot : Slot "list" name id)
    (hty : typeOf (.builtin id) = pure (.type "method_descriptor")) (hl : PLst s.heap l xs) (h : Q (.builtin id, [.ref l]) s) : wpAny (model c.prog c.w) A (getMethod (.ref l) name pl) Q E s := by
  obtain ⟨n, e⟩ := hl
  exact getMethod_list_of slot hty ⟨_, e, rfl, n, rfl⟩ ⟨_, e, rfl⟩ h

theorem stored_kept {s : Shared} (R : Good c X F s.heap st) {x : Str} {a : Addr} {l : List V} {wr : Bool} (ho : st.own = .lst x a l wr) : ∃ xs, Stored X.env s.heap x (.ref a) ∧ PLst s.heap a xs ∧ RepL c.ad F s.heap l xs := by
  have q := R.own
  rw [ho] at q
  obtain ⟨xs, S, _, _, _, _, p, r, _⟩ := q
  exact ⟨xs, S, p, r⟩

theorem append_own {A : Around} {s : Shared} {x : Str} {a : Addr} {l : List V} {v : V} {u : Value} {Q : Value → Shared → Prop} {E : Value → Shared → Prop} (R : Good c X F s.heap st) (ok : ActOk c sc X) (ho : st.own = .lst x a l true) (ru : Rep c.ad F s.heap v u) (hz : l.length + 1 ≤ sizeLine)
    (hq : ∀ h', Good c X F h' { st with own := .lst x a (l ++ [v]) true } → Later F s.heap F h' → Q .none { s with heap := h' }) : wpAny (model c.prog c.w) A (call (.builtin "list.append") [.ref a, u]) Q E s := by
  have q := R.own
  rw [ho] at q
  obtain ⟨xs, S, nf, ng, nL, nc, ⟨m, p⟩, r, z, pn, w⟩ := q
  refine append_at (hsz := by rw [List.size_toArray, ← r.length]; exact z) p fun h' hs e => ?_
  have L : Later F s.heap F h' := sb_later hs nf
  have w' := w rfl
  refine hq h' ?_ L
  have kL : ∀ o, s.heap.get? X.env.locals = some o → h'.get? X.env.locals = some o := fun o e => (hs.2 _ nL.symm).trans e
  have kc : ∀ y b, X.env.cells.lookup y = some b → ∀ o, s.heap.get? b = some o → h'.get? b = some o := fun y b lk o e => (hs.2 b (nc y b lk)).trans e
  exact {
    stat := R.stat.later L
    g := R.g.same L (fun b m o e => (hs.2 b fun q => ng (q ▸ m)).trans e) R.g.nf
    froz := fun b f => by obtain ⟨o, e⟩ := R.froz b f; exact ⟨o, L.2 b o f e⟩
    fnew := R.fnew
    kept := fun b o e m => (hs.2 b fun q => by rw [q, w'.1] at e; cases e).trans (R.kept b o e m)
    ns := by obtain ⟨m, n⟩ := R.ns; exact ⟨m, n.at' kL⟩
    LF := R.LF
    cells := fun y b lk => by obtain ⟨⟨v, o, e, d⟩, f⟩ := R.cells y b lk; exact ⟨⟨v, o, kc y b lk o e, d⟩, f⟩
    pins := fun p hp => ⟨(hs.2 _ (pn p hp)).trans (R.pins p hp).1, (R.pins p hp).2⟩
    loc := fun y w e => by obtain ⟨q, S, r⟩ := R.loc y w e; exact ⟨q, S.at kL kc, r.later L⟩
    own := ⟨xs ++ [u], S.at kL kc, nf, ng, nL, nc, ⟨m + 1, by rw [e]; simp⟩, (r.later L).append (RepL.one (ru.later L)), by simp; lia, pn, w⟩
    noloc := fun y hy => R.noloc y (by rw [ho]; exact hy) }

/-- a method call with one argument on a list: what MethodCall and callWith ask -/
theorem list_method {o e : Expr} {name : Str} {id : String} {apos pos : Pos} {pl : Env → Sem Bool} {A : Around} {s : Shared} {Q : Value → Shared → Prop} {env : Env} (slot : Slot "list" name id) (hty : typeOf (.builtin id) = pure (.type "method_descriptor")) (hk : keeperOf (.builtin id) = pure .machine)
    (he : ∀ env, eval (.Call (.Attribute o name apos) [e] [] pos) env = (do
      let ov ← eval o env
      standAt apos.atName
      let (f, first) ← holding [ov] (getMethod ov name (pl env))
      callWith pos f first (backTo pos (starEach [e] env)) []))
    (hplain : ∀ env, (backTo pos (starEach [e] env)).any (·.1) = false)
    (h : wpAny (model c.prog c.w) A (eval o env) (fun ov s₁ => ∃ l xs, ov = .ref l ∧ PLst s₁.heap l xs ∧ wpAny (model c.prog c.w) A (spliced (backTo pos (starEach [e] env))) (fun vs s₂ => wpAny (model c.prog c.w) A (call (.builtin id) (.ref l :: vs)) Q (fun _ _ => False) s₂) (fun _ _ => False) s₁) (fun _ _ => False) s) :
    wpAny (model c.prog c.w) A (eval (.Call (.Attribute o name apos) [e] [] pos) env) Q (fun _ _ => False) s := by
  refine MethodCall_ (pl := pl env) (wpAny_mono h (fun ov s₁ h₁ => ?_) fun _ _ e => e) (he _)
  obtain ⟨l, xs, rfl, p, h₁⟩ := h₁
  refine getMethod_lst slot hty p ?_
  refine callWith_of (P := fun _ => True) (by rw [hplain]; rfl) (fun _ _ => ⟨.machine, .inr (.inl rfl), Looks.of_pure hk⟩) (evalArgs_any (hplain _) ?_)
  exact wpAny_mono h₁ (fun vs s₂ h₂ => ⟨trivial, h₂⟩) fun _ _ e => e

noncomputable def T_app (x : Str) (Te : St → (V → St → Prop) → Prop) (st : St) (P : V → St → Prop) : Prop := match st.own with
  | .lst y a l true => if y = x then (Te st fun v st1 => st1.own = st.own ∧ l.length + 1 ≤ sizeLine ∧ P .none { st1 with own := .lst y a (l ++ [v]) true }) else False
  | _ => False
theorem e_append {x : Str} {e : Expr} {px apos pos : Pos} {pl : Env → Sem Bool} {Te : St → (V → St → Prop) → Prop} (hte : SemE c n sc e Te)
    (he : ∀ env, eval (.Call (.Attribute (.Name x px) "append" apos) [e] [] pos) env = (do
      let ov ← eval (.Name x px) env
      standAt apos.atName
      let (f, first) ← holding [ov] (getMethod ov "append" (pl env))
      callWith pos f first (backTo pos (starEach [e] env)) []))
    (hst : ∀ env, starEach [e] env = [(false, eval e env)])
    (hd : (x == ("__debug__" : Str)) = false) (hn : (x == ("__classdict__" : Str)) = false) : SemE c n sc (.Call (.Attribute (.Name x px) "append" apos) [e] [] pos) (T_app x Te) := by
  intro A X F s st P Q rm ok g ht hq
  unfold T_app at ht
  split at ht
  · rename_i y a l ho
    have pq := if_elim ht
    clear ht
    obtain ⟨rfl, ht⟩ := pq
    refine list_method slot_list_append PySem.F.type_list_append (by rfl) he (fun env => by rw [hst]; rfl) ?_
    obtain ⟨xs, S, p, r⟩ := stored_kept g ho
    refine wpAny_Name (load_stored ok.kind S ⟨a, xs, rfl, p, ?_⟩ hn) hd
    rw [hst]
    refine spliced_back (hte A X F _ st _ _ rm ok g ht fun F1 h1 tk1 u v st1 g1 L1 r1 p1 => ?_)
    obtain ⟨ho1, hz, p1⟩ := p1
    refine spliced_nil ?_
    rw [ho] at ho1
    refine append_own (s := { s with heap := h1, toks := tk1 }) g1 ok ho1 r1 hz fun h' g' L' => ?_
    exact hq F1 h' tk1 .none .none _ g' (L1.trans L') rfl p1
  · exact ht.elim

noncomputable def onApp (o v : V) (g : G) (k : G → Prop) : Prop := match o with
  | .obj .kinds => (match v with
    | .str s => g.kinds.length + 1 ≤ sizeLine ∧ k { g with kinds := g.kinds ++ [s] }
    | _ => False)
  | .obj .parts => (match v with
    | .tup l => ∃ ns : List Int, l = ns.map .int ∧ g.parts.length + 1 ≤ sizeLine ∧ k { g with parts := g.parts ++ [ns] }
    | _ => False)
  | .obj .numbers => (g.done = false ∧ g.numbers.length + 1 ≤ sizeLine) ∧ k { g with numbers := g.numbers ++ [v] }
  | _ => False

noncomputable def onLs : V → Prop → Prop
  | .obj .kinds, p => p
  | .obj .parts, p => p
  | .obj .numbers, p => p
  | _, _ => False
theorem onLs_elim {v : V} {p : Prop} (h : onLs v p) : (v = .obj .kinds ∨ v = .obj .parts ∨ v = .obj .numbers) ∧ p := by
  unfold onLs at h
  split at h
  · exact ⟨.inl rfl, h⟩
  · exact ⟨.inr (.inl rfl), h⟩
  · exact ⟨.inr (.inr rfl), h⟩
  · exact h.elim
theorem e_appobj {o e : Expr} {apos pos : Pos} {pl : Env → Sem Bool} {To Te : St → (V → St → Prop) → Prop} (hto : SemE c n sc o To) (hte : SemE c n sc e Te)
    (he : ∀ env, eval (.Call (.Attribute o "append" apos) [e] [] pos) env = (do
      let ov ← eval o env
      standAt apos.atName
      let (f, first) ← holding [ov] (getMethod ov "append" (pl env))
      callWith pos f first (backTo pos (starEach [e] env)) []))
    (hst : ∀ env, starEach [e] env = [(false, eval e env)]) : SemE c n sc (.Call (.Attribute o "append" apos) [e] [] pos)
      (fun st P => To st fun ov st0 => onLs ov (Te st0 fun v st1 => onApp ov v st1.g fun g' => P .none { st1 with g := g' })) := by
  intro A X F s st P Q rm ok g ht hq
  refine list_method slot_list_append PySem.F.type_list_append (by rfl) he (fun env => by rw [hst]; rfl) ?_
  refine hto A X F s st _ _ rm ok g ht fun F0 h0 tk0 x ov st0 g0 L0 r0 p0 => ?_
  have pq := onLs_elim p0
  clear p0
  obtain ⟨hov, p0⟩ := pq
  have hon : On c.ad := by
    rcases hov with rfl | rfl | rfl
    · exact (show x = .ref (c.ad .kinds) ∧ On c.ad from r0).2
    · exact (show x = .ref (c.ad .parts) ∧ On c.ad from r0).2
    · exact (show x = .ref (c.ad .numbers) ∧ On c.ad from r0).2
  have hpl : ∃ l xs, x = .ref l ∧ PLst h0 l xs ∧ (ov = .obj .kinds ∧ l = c.ad .kinds ∨ ov = .obj .parts ∧ l = c.ad .parts ∨ ov = .obj .numbers ∧ l = c.ad .numbers) := by
    rcases hov with rfl | rfl | rfl
    · obtain ⟨rfl, hon⟩ : x = .ref (c.ad .kinds) ∧ On c.ad := r0
      obtain ⟨xs, p, _⟩ := (g0.g.real hon).kinds; exact ⟨_, xs, rfl, p, .inl ⟨rfl, rfl⟩⟩
    · obtain ⟨rfl, hon⟩ : x = .ref (c.ad .parts) ∧ On c.ad := r0
      obtain ⟨xs, p, _⟩ := (g0.g.real hon).parts; exact ⟨_, xs, rfl, p, .inr (.inl ⟨rfl, rfl⟩)⟩
    · obtain ⟨rfl, hon⟩ : x = .ref (c.ad .numbers) ∧ On c.ad := r0
      obtain ⟨xs, p, _⟩ := (g0.g.real hon).numbers; exact ⟨_, xs, rfl, p, .inr (.inr ⟨rfl, rfl⟩)⟩
  obtain ⟨l, xs, rfl, p, hl⟩ := hpl
  refine ⟨l, xs, rfl, p, ?_⟩
  rw [hst]
  refine spliced_back (hte A X F0 _ st0 _ _ rm ok g0 p0 fun F1 h1 tk1 u v st1 g1 L1 r1 p1 => ?_)
  refine spliced_nil ?_
  rcases hl with ⟨rfl, rfl⟩ | ⟨rfl, rfl⟩ | ⟨rfl, rfl⟩
  · cases v <;> (try exact p1.elim)
    rename_i sv
    obtain ⟨hz, p1⟩ := p1
    obtain ⟨xs, ⟨m, p⟩, r, z⟩ := (g1.g.real hon).kinds
    have hxl := r.length
    rw [List.length_map] at hxl
    refine append_at (s := { s with heap := h1, toks := tk1 }) (hsz := by rw [List.size_toArray, ← hxl]; exact z) p fun h' hs e => ?_
    have hgm : GM c (c.ad .kinds) := gmi hon <| .inr (.inl rfl)
    have L : Later F1 h1 F1 h' := sb_later hs fun f => g1.g.nf _ f hgm
    obtain ⟨⟨n1, n2, n3, n4, n5, n6, n7, n8, n9, n10⟩, w1, w2, w3, w4, w5⟩ := g1.g.ne hon
    have hg := g1.g.upd (g' := { st1.g with kinds := st1.g.kinds ++ [sv] }) hgm hs (.inl ⟨fun o e => (hs.2 _ w2.symm).trans e, rfl, rfl⟩) (.inl ⟨fun o e => (hs.2 _ n1).trans e, rfl, rfl⟩)
      (.inr ⟨xs ++ [u], ⟨m + 1, by rw [e]; simp⟩, by simp only [List.map_append, List.map_cons, List.map_nil]; exact (r.later L).append (RepL.one (r1.later L)), by simpa using hz⟩)
      (.inl ⟨fun o e => (hs.2 _ n5.symm).trans e, rfl⟩) (.inl ⟨fun o e => (hs.2 _ n6.symm).trans e, rfl⟩) (.inl ⟨fun o e => (hs.2 _ n7.symm).trans e, rfl⟩)
    obtain ⟨g', L'⟩ := g1.upd ok hgm hs hg
    exact hq F1 h' tk1 .none .none _ g' ((L0.trans L1).trans L') rfl p1
  · cases v <;> (try exact p1.elim)
    rename_i lv
    obtain ⟨ns, rfl, hz, p1⟩ := p1
    obtain ⟨xs, ⟨m, p⟩, r, z⟩ := (g1.g.real hon).parts
    have hxl := r.length
    rw [List.length_map] at hxl
    refine append_at (s := { s with heap := h1, toks := tk1 }) (hsz := by rw [List.size_toArray, ← hxl]; exact z) p fun h' hs e => ?_
    have hgm : GM c (c.ad .parts) := gmi hon <| .inr (.inr (.inl rfl))
    have L : Later F1 h1 F1 h' := sb_later hs fun f => g1.g.nf _ f hgm
    obtain ⟨⟨n1, n2, n3, n4, n5, n6, n7, n8, n9, n10⟩, w1, w2, w3, w4, w5⟩ := g1.g.ne hon
    have hg := g1.g.upd (g' := { st1.g with parts := st1.g.parts ++ [ns] }) hgm hs (.inl ⟨fun o e => (hs.2 _ w3.symm).trans e, rfl, rfl⟩) (.inl ⟨fun o e => (hs.2 _ n2).trans e, rfl, rfl⟩)
      (.inl ⟨fun o e => (hs.2 _ n5).trans e, rfl⟩)
      (.inr ⟨xs ++ [u], ⟨m + 1, by rw [e]; simp⟩, by simp only [List.map_append, List.map_cons, List.map_nil]; exact (r.later L).append (RepL.one (r1.later L)), by simpa using hz⟩)
      (.inl ⟨fun o e => (hs.2 _ n8.symm).trans e, rfl⟩) (.inl ⟨fun o e => (hs.2 _ n9.symm).trans e, rfl⟩)
    obtain ⟨g', L'⟩ := g1.upd ok hgm hs hg
    exact hq F1 h' tk1 .none .none _ g' ((L0.trans L1).trans L') rfl p1
  · obtain ⟨⟨hdn, hz⟩, p1⟩ := p1
    obtain ⟨xs, ⟨m, p⟩, r, z⟩ := (g1.g.real hon).numbers
    have hxl := r.length
    refine append_at (s := { s with heap := h1, toks := tk1 }) (hsz := by rw [List.size_toArray, ← hxl]; exact z) p fun h' hs e => ?_
    have hgm : GM c (c.ad .numbers) := by
      rcases (g1.g.real hon).live with ⟨_, e⟩ | ⟨e, _⟩
      · exact gmi hon <| .inr (.inr (.inr (.inr (.inl e.symm))))
      · rw [hdn] at e; cases e
    have L : Later F1 h1 F1 h' := sb_later hs fun f => g1.g.nf _ f hgm
    obtain ⟨⟨n1, n2, n3, n4, n5, n6, n7, n8, n9, n10⟩, w1, w2, w3, w4, w5⟩ := g1.g.ne hon
    have hg := g1.g.upd (g' := { st1.g with numbers := st1.g.numbers ++ [v] }) hgm hs (.inl ⟨fun o e => (hs.2 _ w5.symm).trans e, rfl, rfl⟩) (.inl ⟨fun o e => (hs.2 _ n4).trans e, rfl, rfl⟩)
      (.inl ⟨fun o e => (hs.2 _ n7).trans e, rfl⟩) (.inl ⟨fun o e => (hs.2 _ n9).trans e, rfl⟩) (.inl ⟨fun o e => (hs.2 _ n10).trans e, rfl⟩)
      (.inr ⟨xs ++ [u], ⟨m + 1, by rw [e]; simp⟩, (r.later L).append (RepL.one (r1.later L)), by simpa using hz⟩)
    obtain ⟨g', L'⟩ := g1.upd ok hgm hs hg
    exact hq F1 h' tk1 .none .none _ g' ((L0.trans L1).trans L') rfl p1

-- o[i] = v on the counted dicts
noncomputable def onSet (o i v : V) (g : G) (k : G → Prop) : Prop := match o with
  | .obj .feed => onStr i fun s => onInt v fun j => s = Str.ofString "at" ∧ k { g with at_ := j }
  | .obj .known => onTup i fun l => onInt v fun j => ∃ ns : List Int, l = ns.map .int ∧ g.known.lookup ns = none ∧ g.known.length + 1 ≤ sizeLine ∧ k { g with known := g.known ++ [(ns, j)] }
  | .obj .world => onStr i fun s => onLst v fun l => ∃ ns : List Int, l = ns.map .int ∧ s = Str.ofString "inputs" ∧ g.ready = false ∧ k { g with inputs := ns, ready := true }
  | _ => False

theorem KnRep.snoc {F : Addr → Prop} {p : List Int} {j : Int} {a : Addr} {t : Tok} : ∀ {l : List (List Int × Int)} {xs : List (List Int × Addr × Value)}, KnRep F l xs → F a → KnRep F (l ++ [(p, j)]) (xs ++ [(p, a, .int j t)])
  | [], _, rfl, f => ⟨a, t, [], rfl, f, rfl⟩
  | _ :: _, _, ⟨b, u, r, rfl, fb, q⟩, f => ⟨b, u, _, rfl, fb, KnRep.snoc q f⟩
theorem KnRep.length {F : Addr → Prop} : ∀ {l : List (List Int × Int)} {xs : List (List Int × Addr × Value)}, KnRep F l xs → l.length = xs.length
  | [], _, rfl => rfl
  | _ :: _, _, ⟨b, u, r, rfl, fb, q⟩ => by simp [KnRep.length q]

theorem s_setobj {o i value : Expr} {sp pos : Pos} {Tv To Ti : St → (V → St → Prop) → Prop} (hv : SemE c n sc value Tv) (ho : SemE c n sc o To) (hi : SemE c n sc i Ti)
    (hs : ∀ env, env.scope.kind = .function → swapsWith value (some (.Subscript o i sp)) pos.line env = pure false) :
    SemS c n sc (.Assign [.Subscript o i sp] value pos) (fun st P => Tv st fun v st1 => To st1 fun ov st2 => Ti st2 fun iv st3 => onSet ov iv v st3.g fun g' => P .next { st3 with g := g' }) := by
  intro A X F s st P Q rm ok g ht hq
  refine wpAny_Assign_Subscript (hv A X F s st _ _ rm ok g ht fun F1 h1 tk1 u v st1 g1 L1 r1 p1 => ?_) (hs _ ok.kind)
  refine ho A X F1 _ st1 _ _ rm ok g1 p1 fun F2 h2 tk2 x ov st2 g2 L2 r2 p2 => ?_
  refine hi A X F2 _ st2 _ _ rm ok g2 p2 fun F3 h3 tk3 y iv st3 g3 L3 r3 p3 => ?_
  have r1' := (r1.later L2).later L3
  cases ov with
  | obj ob =>
    cases ob with
    | feed =>
      obtain ⟨sv, e1, p4⟩ := onStr_elim p3
      obtain ⟨j, e2, p5⟩ := onInt_elim p4
      clear p3 p4
      subst e1
      subst e2
      have p3 := p5
      clear p5
      obtain ⟨rfl, p3⟩ := p3
      obtain ⟨rfl, hon⟩ : x = .ref (c.ad .feed) ∧ On c.ad := r2
      obtain ⟨t, rfl⟩ : ∃ t, y = .str (Str.ofString "at") t := r3
      obtain ⟨t', rfl⟩ : ∃ t, u = .int j t := r1'
      obtain ⟨ca, xs, t0, f, p, r, z, d⟩ := (g3.g.real hon).feed
      have hgm : GM c (c.ad .feed) := gmi hon <| .inl rfl
      refine wpAny_setItem_pairs (s := { s with heap := h3, toks := tk3 }) (k := Str.ofString "at") (strIs _ _) d (fun h' d' hs' => ?_) (by simp [sizeLine])
      have L : Later F3 h3 F3 h' := sb_later hs' fun f => g3.g.nf _ f hgm
      obtain ⟨⟨n1, n2, n3, n4, n5, n6, n7, n8, n9, n10⟩, w1, w2, w3, w4, w5⟩ := g3.g.ne hon
      have d2 : h'.DictOf (PySem.strKind c.prog c.w) (c.ad .feed) [(Str.ofString "cells", .ref ca), (Str.ofString "at", .int j t')] := by
        have e : stored [(Str.ofString "cells", Value.ref ca), (Str.ofString "at", Value.int st3.g.at_ t0)] (Str.ofString "at") (Value.int j t') = [(Str.ofString "cells", .ref ca), (Str.ofString "at", .int j t')] := by
          have hne : ¬ Str.ofString "cells" = Str.ofString "at" := by decide
          simp [stored, hne]
        rw [← e]; exact d'
      have hg := g3.g.upd (g' := { st3.g with at_ := j }) hgm hs' (.inl ⟨fun o e => (hs'.2 _ w1.symm).trans e, rfl, rfl⟩) (.inr ⟨ca, xs, t', f, p.at fun o => L.2 _ o f, r.later L, z, d2⟩)
        (.inl ⟨fun o e => (hs'.2 _ n1.symm).trans e, rfl⟩) (.inl ⟨fun o e => (hs'.2 _ n2.symm).trans e, rfl⟩) (.inl ⟨fun o e => (hs'.2 _ n3.symm).trans e, rfl⟩) (.inl ⟨fun o e => (hs'.2 _ n4.symm).trans e, rfl⟩)
      obtain ⟨g', L'⟩ := g3.upd ok hgm hs' hg
      exact hq F3 h' _ .next .next _ g' (((L1.trans L2).trans L3).trans L') rfl p3
    | known =>
      obtain ⟨l, e1, p4⟩ := onTup_elim p3
      obtain ⟨j, e2, p5⟩ := onInt_elim p4
      clear p3 p4
      subst e1
      subst e2
      have p3 := p5
      clear p5
      obtain ⟨ns, rfl, hno, hz, p3⟩ := p3
      obtain ⟨rfl, hon⟩ : x = .ref (c.ad .known) ∧ On c.ad := r2
      obtain ⟨t', rfl⟩ : ∃ t, u = .int j t := r1'
      obtain ⟨xs, d, r, z⟩ := (g3.g.real hon).known
      obtain ⟨b', ys, rfl, f', r'⟩ := id r3
      have hgm : GM c (c.ad .known) := gmi hon <| .inr (.inr (.inr (.inl rfl)))
      have hrl := r.length
      refine wpAny_setItem_heap (s := { s with heap := h3, toks := tk3 }) (knd := tupleKind (intKind c.prog c.w)) (tupleKind_room_in1 ?_) r3.key d (fun h' d' hs' => ?_) (by rw [← hrl]; exact z)
      · show A.units + 1 < 9900
        have := rm.u; lia
      have L : Later F3 h3 F3 h' := sb_later hs' fun f => g3.g.nf _ f hgm
      obtain ⟨⟨n1, n2, n3, n4, n5, n6, n7, n8, n9, n10⟩, w1, w2, w3, w4, w5⟩ := g3.g.ne hon
      rw [storedH_new ((r.at ns).1 hno)] at d'
      have hg := g3.g.upd (g' := { st3.g with known := st3.g.known ++ [(ns, j)] }) hgm hs' (.inl ⟨fun o e => (hs'.2 _ w4.symm).trans e, rfl, rfl⟩) (.inl ⟨fun o e => (hs'.2 _ n3).trans e, rfl, rfl⟩)
        (.inl ⟨fun o e => (hs'.2 _ n6).trans e, rfl⟩) (.inl ⟨fun o e => (hs'.2 _ n8).trans e, rfl⟩) (.inr ⟨_, d', r.snoc f', by simpa using hz⟩) (.inl ⟨fun o e => (hs'.2 _ n10.symm).trans e, rfl⟩)
      obtain ⟨g', L'⟩ := g3.upd ok hgm hs' hg
      exact hq F3 h' _ .next .next _ g' (((L1.trans L2).trans L3).trans L') rfl p3
    | world =>
      obtain ⟨sv, e1, p4⟩ := onStr_elim p3
      obtain ⟨l, e2, p5⟩ := onLst_elim p4
      clear p3 p4
      subst e1
      subst e2
      have p3 := p5
      clear p5
      obtain ⟨ns, rfl, rfl, hno, p3⟩ := p3
      obtain ⟨rfl, hon⟩ : x = .ref (c.ad .world) ∧ On c.ad := r2
      obtain ⟨t, rfl⟩ : ∃ t, y = .str (Str.ofString "inputs") t := r3
      obtain ⟨il, xs, rfl, f, p, r, z⟩ := r1'
      have hgm : GM c (c.ad .world) := gmi hon <| .inr (.inr (.inr (.inr (.inr rfl))))
      have d : h3.DictOf (PySem.strKind c.prog c.w) (c.ad .world) [(Str.ofString "circuit", .ref (c.ad .circ)), (Str.ofString "binary", .ref (c.ad .bin)), (Str.ofString "numbers", .ref (c.ad .numbers))] := by
        rcases (g3.g.real hon).world with ⟨_, d⟩ | ⟨e, _⟩
        · exact d
        · rw [hno] at e; cases e
      refine wpAny_setItem_pairs (s := { s with heap := h3, toks := tk3 }) (k := Str.ofString "inputs") (strIs _ _) d (fun h' d' hs' => ?_) (by simp [sizeLine])
      have L : Later F3 h3 F3 h' := sb_later hs' fun f => g3.g.nf _ f hgm
      obtain ⟨⟨n1, n2, n3, n4, n5, n6, n7, n8, n9, n10⟩, w1, w2, w3, w4, w5⟩ := g3.g.ne hon
      have d2 : h'.DictOf (PySem.strKind c.prog c.w) (c.ad .world) [(Str.ofString "circuit", .ref (c.ad .circ)), (Str.ofString "binary", .ref (c.ad .bin)), (Str.ofString "numbers", .ref (c.ad .numbers)), (Str.ofString "inputs", .ref il)] := by
        have e : stored [(Str.ofString "circuit", Value.ref (c.ad .circ)), (Str.ofString "binary", Value.ref (c.ad .bin)), (Str.ofString "numbers", Value.ref (c.ad .numbers))] (Str.ofString "inputs") (Value.ref il) = [(Str.ofString "circuit", .ref (c.ad .circ)), (Str.ofString "binary", .ref (c.ad .bin)), (Str.ofString "numbers", .ref (c.ad .numbers)), (Str.ofString "inputs", .ref il)] := by
          have hne1 : ¬ Str.ofString "circuit" = Str.ofString "inputs" := by decide
          have hne2 : ¬ Str.ofString "binary" = Str.ofString "inputs" := by decide
          have hne3 : ¬ Str.ofString "numbers" = Str.ofString "inputs" := by decide
          simp [stored, hne1, hne2, hne3]
        rw [← e]; exact d'
      have hg := g3.g.upd (g' := { st3.g with inputs := ns, ready := true }) hgm hs' (.inr ⟨rfl, il, xs, f, p.at fun o => L.2 _ o f, r.later L, by simpa using z, d2⟩)
        (.inl ⟨fun o e => (hs'.2 _ w1).trans e, rfl, rfl⟩) (.inl ⟨fun o e => (hs'.2 _ w2).trans e, rfl⟩) (.inl ⟨fun o e => (hs'.2 _ w3).trans e, rfl⟩) (.inl ⟨fun o e => (hs'.2 _ w4).trans e, rfl⟩) (.inl ⟨fun o e => (hs'.2 _ w5).trans e, rfl⟩)
      obtain ⟨g', L'⟩ := g3.upd ok hgm hs' hg
      exact hq F3 h' _ .next .next _ g' (((L1.trans L2).trans L3).trans L') rfl p3
    | _ => exact False.elim p3
  | _ => exact False.elim p3

end
end Mine

namespace Mine

section
variable {prog : Program} {w : World} {A : Around} {E : Value → Shared → Prop} {s : Shared} {T : String} {r d : Addr} {n : Nat} {P : Nat → Value → Prop} {OK : Heap → Prop}
theorem collect_kdl {R : List Value → Shared → Prop} (K : KdlSrc prog w T r d n P OK) (hh : A.handled = none) (hok : OK s.heap) (hn : n ≤ sizeLine)
    (h : ∀ (h' : Heap) (tk : Nat) (vs : List Value), (∀ b o, s.heap.get? b = some o → h'.get? b = some o) → vs.length = n → (∀ j v, vs[j]? = some v → P j v) → R vs { s with heap := h', toks := tk }) :
    wpAny (model prog w) A (collect (.ref r)) R E s := by
  have hlt := K.there _ hok
  unfold collect
  refine wpAny_bind (wpAny_runValue (codeAny_builtin entry_proto_collect' ?_))
  rw [Around.under_plainId PySem.F.plain_proto_collect _]
  show wpAny _ A.in1 (newList [] >>= fun l => again (.builtin "list.__iadd__" ⟨[l, .ref r], []⟩)) _ _ s
  refine wpAny_bind (wpAny_newObj_type ?_)
  refine wpAny_pure ⟨plainId_quiet PySem.F.plain_list_iadd _, codeAny_builtin entry_list_iadd' ?_⟩
  rw [Around.under_plainId PySem.F.plain_list_iadd _]
  have hS₁ : (s.heap.push { cls := .type "list", data := .seq ([] : List Value).toArray }).get? s.heap.objs.size = some { cls := .type "list", data := .seq #[] } := Heap.get?_push_size _ rfl
  show wpAny _ A.in1 (Builtin.List.listExtendWith (.ref s.heap.objs.size) (.ref r) (.ref s.heap.objs.size)) _ _ _
  have key := kdl_extend (A := A) (s := { s with heap := s.heap.push { cls := .type "list", data := .seq ([] : List Value).toArray } })
    (R := fun (q : Result) (s' : Shared) => ∃ (h' : Heap) (tk : Nat) (acc' : Array Value) (c' : Nat), q = .ok (.ret (.ref s.heap.objs.size)) ∧ s' = { s with heap := h', toks := tk } ∧
      (∀ b o, s.heap.get? b = some o → h'.get? b = some o) ∧ h'.get? s.heap.objs.size = some { cls := .type "list", dict := none, data := .seq acc' c', slots := #[] } ∧ ItemsOf P acc' n)
    K hh (K.keep _ _ hok fun b _ o e => Heap.get?_push_of_some _ e) s.heap.objs.size (Nat.ne_of_gt hlt.1) (Nat.ne_of_gt hlt.2) (.ref s.heap.objs.size) 0 hS₁
    (fun h' tk acc' c' hk hS' hacc => ⟨h', tk, acc', c', rfl, rfl, fun b o e => hk b o (Nat.ne_of_lt (Heap.lt_size e)) (Heap.get?_push_of_some _ e), hS', hacc⟩) hn
  refine wpAny_mono key (fun fin s' x => ?_) fun e s' x => ?_
  · cases fin with
    | done f =>
      obtain ⟨h', tk, acc', c', e, rfl, hk, hS', hacc⟩ := x
      cases e
      show wpAny _ A (load s.heap.objs.size >>= _) _ _ _
      refine wpAny_bind (wpAny_load hS' ?_)
      exact wpAny_pure (h h' tk acc'.toList hk (by rw [Array.length_toList]; exact hacc.1) fun j v e => hacc.2 j v (by rw [← Array.getElem?_toList]; exact e))
    | again c₁ =>
      refine ⟨x.1, codeAny_mono x.2 fun q s₂ y => ?_⟩
      obtain ⟨h', tk, acc', c', rfl, rfl, hk, hS', hacc⟩ := y
      show wpAny _ A (load s.heap.objs.size >>= _) _ _ _
      refine wpAny_bind (wpAny_load hS' ?_)
      exact wpAny_pure (h h' tk acc'.toList hk (by rw [Array.length_toList]; exact hacc.1) fun j v e => hacc.2 j v (by rw [← Array.getElem?_toList]; exact e))
  · obtain ⟨_, _, _, _, e', _⟩ := x
    cases e'

theorem ints_of_keys {kvs : List (Int × Value)} : ∀ (vs : List Value), vs.length = kvs.length → (∀ (j : Nat) (v : Value), vs[j]? = some v → ∃ k x, kvs[j]? = some (k, x) ∧ (intKind prog w).is k v = true) → IntsAre vs (kvs.map (·.1)) := by
  induction kvs with
  | nil => intro vs hl _; cases vs with
    | nil => exact .nil
    | cons v vs => simp at hl
  | cons kv kvs ih =>
    intro vs hl hv
    cases vs with
    | nil => simp at hl
    | cons v vs =>
      obtain ⟨k, x, e, hk⟩ := hv 0 v rfl
      simp at e
      subst e
      obtain ⟨t, rfl⟩ : ∃ t, v = .int k t := by
        cases v <;> simp [intKind, Value.isInt] at hk
        rename_i i t
        exact ⟨t, by rw [hk]⟩
      exact .cons k t (ih vs (by simpa using hl) fun j v' e' => by obtain ⟨k, x, e, hk⟩ := hv (j + 1) v' (by simpa using e'); exact ⟨k, x, by simpa using e, hk⟩)

theorem sorted_dict {d : Addr} {kvs : List (Int × Value)} {Q : Value → Shared → Prop} (hh : A.handled = none) (hd : s.heap.DictOf (intKind prog w) d kvs) (lo : (d == sysModules) = false) (h64 : kvs.length < 64)
    (h : ∀ (B : Addr) (h' : Heap) (tk : Nat) (out : List Value) (ns' : List Int) (m : Nat), (∀ b o, s.heap.get? b = some o → h'.get? b = some o) → s.heap.get? B = none → h'.get? B = some { cls := .type "list", data := .seq out.toArray m } → IntsAre out ns' → ns'.Perm (kvs.map (·.1)) → ns'.Pairwise (· ≤ ·) → Q (.ref B) { s with heap := h', toks := tk }) :
    wpAny (model prog w) A (call (.builtin "sorted") [.ref d]) Q E s := by
  obtain ⟨ep, hat⟩ := hd.dictAt
  refine call_function_entry kind_sorted plain_sorted entry_sorted (args_sorted1 _) ?_
  unfold Builtin.«sorted»
  refine wpAny_bind (m := checkCount "sorted" 1 1 _) (wpAny_pure ?_)
  refine wpAny_bind (collect_kdl (A := A.in1) (kdl_dict (knd := intKind prog w) (kvs := kvs) (ep := ep) lo) hh hat (by show _ ≤ 16777216; lia) fun h1 tk vs hk hl hv => ?_)
  have hI := ints_of_keys vs hl hv
  refine wpAny_bind (wpAny_newList ?_ (by show _ ≤ 16777216; lia))
  dsimp only
  have hoL : (h1.push (seqObj "list" vs.toArray 0)).get? h1.objs.size = some (seqObj "list" vs.toArray 0) := Heap.get?_push_size _ rfl
  have hn : s.heap.get? h1.objs.size = none := by
    cases e : s.heap.get? h1.objs.size with
    | none => rfl
    | some o => exact absurd (Heap.lt_size (hk _ _ e)) (Nat.lt_irrefl _)
  show wpAny _ _ _ _ _ { s with heap := h1.push (seqObj "list" vs.toArray 0), toks := tk }
  refine wpAny_bind (wpAny_holding (wpAny_call_entry slot_list_sort ⟨_, hoL, rfl⟩ entry_list_sort (list_sort_tree (s := { s with heap := h1.push (seqObj "list" vs.toArray 0), toks := tk }) hoL hI (by rw [hl]; exact h64) fun out ns' a1 a2 a3 => ⟨_, rfl, ?_⟩) (args_list_sort _)))
  refine wpAny_pure ⟨_, rfl, ?_⟩
  obtain ⟨B, eB⟩ : ∃ B, B = h1.objs.size := ⟨_, rfl⟩
  obtain ⟨h2, e2⟩ : ∃ h2, h2 = h1.push (seqObj "list" vs.toArray 0) := ⟨_, rfl⟩
  rw [← eB] at hn hoL ⊢
  rw [← e2] at hoL ⊢
  have up2 : ∀ b o, s.heap.get? b = some o → h2.get? b = some o := fun b o e => by rw [e2]; exact Heap.get?_push_of_some _ (hk b o e)
  have hB : B < h2.objs.size := Heap.lt_size hoL
  obtain ⟨e1, ho1⟩ : ∃ e1, (h2.update B (Obj.mapSeq fun _ => #[])).get? B = some (seqObj "list" #[] e1) := ⟨_, get?_update_seq hoL (fun _ => #[])⟩
  have ho6 : (((h2.update B (Obj.mapSeq fun _ => #[])).push (seqObj "tuple" vs.toArray 0)).push (seqObj "list" #[] 0)).get? B = some (seqObj "list" #[] e1) := by
    rw [Heap.get?_push_ne _ _ _ (by rw [size_push', Heap.size_update]; exact Nat.ne_of_lt (Nat.lt_succ_of_lt hB)), Heap.get?_push_ne _ _ _ (by rw [Heap.size_update]; exact Nat.ne_of_lt hB)]
    exact ho1
  refine h B (sortedHeap h2 B vs out) tk out.toList ns' _ (fun b o e => ?_) hn (by rw [Array.toArray_toList]; exact get?_update_seq ho6 (fun _ => out)) a1 a2 a3
  have hbB : b ≠ B := by rintro rfl; rw [hn] at e; cases e
  unfold sortedHeap
  rw [Heap.get?_update_other _ _ (Ne.symm hbB)]
  exact Heap.get?_push_of_some _ (Heap.get?_push_of_some _ ((Heap.get?_update_other _ _ (Ne.symm hbB)).trans (up2 b o e)))
end

section
variable {c : Cx} {n : Nat} {sc : List (Str × NameKind)} {X : Act} {F : Addr → Prop} {h h' : Heap} {st : St} {g : G}

theorem RepL.of_ints {ad : Ob → Addr} {F : Addr → Prop} {h : Heap} : ∀ {xs : List Value} {ns : List Int}, IntsAre xs ns → RepL ad F h (ns.map V.int) xs
  | _, _, .nil => rfl
  | _, _, .cons m t r => ⟨_, _, rfl, rep_int m t, RepL.of_ints r⟩

/-- sorted(found), the keys of one's own dict -/
noncomputable def T_sorted (x : Str) (st : St) (P : V → St → Prop) : Prop := match st.own with
  | .dct y _ ks => if y = x then (ks.length < 64 ∧ ∀ ns' : List Int, ns'.Perm ks → ns'.Pairwise (· ≤ ·) → P (.lst (ns'.map .int)) st) else False
  | _ => False
theorem e_sorted {fe : Expr} {x : Str} {px pos : Pos} (hfe : Callee c sc fe (.builtin "sorted"))
    (he : ∀ env, eval (.Call fe [.Name x px] [] pos) env = (do callWith pos (← eval fe env) [] (backTo pos (starEach [.Name x px] env)) (backToKw pos (keywordEach [] env))))
    (hst : ∀ env, starEach [.Name x px] env = [(false, eval (.Name x px) env)])
    (hd : (x == ("__debug__" : Str)) = false) (hn : (x == ("__classdict__" : Str)) = false) : SemE c n sc (.Call fe [.Name x px] [] pos) (T_sorted x) := by
  intro A X F s st P Q rm ok g ht hq
  unfold T_sorted at ht
  split at ht
  · rename_i y a ks ho
    have pq := if_elim ht
    clear ht
    obtain ⟨rfl, h64, ht⟩ := pq
    refine Call_ (hfe.1 A X F s st _ _ ok g ?_) (he _)
    have q := g.own
    rw [ho] at q
    obtain ⟨S, nf, nL, nc, p, w⟩ := q
    refine callWith_of (P := fun h => ∃ F, Stat c F h) (by rw [hst]; rfl) (fun h ⟨F, S⟩ => hfe.2 F h S) (evalArgs_any (by rw [hst]; rfl) ?_)
    rw [hst]
    refine spliced_back (wpAny_Name (load_stored ok.kind S (spliced_nil ⟨⟨F, g.stat⟩, ?_⟩) hn) hd)
    refine sorted_dict rm.h p.1 p.2 (by simpa using h64) fun B h' tk out ns' m up hB e hI hp hs => ?_
    rw [List.map_map] at hp
    have hp' : ns'.Perm ks := by simpa [Function.comp_def] using hp
    obtain ⟨g', L⟩ := g.grow ok up (fun b => b = B) (fun b e' => by subst e'; exact ⟨hB, _, e⟩)
    exact hq _ h' tk (.ref B) _ st g' L (rep_lst (.inr rfl) ⟨m, e⟩ (RepL.of_ints hI) (by rw [List.length_map, hp'.length_eq]; show _ ≤ 16777216; lia)) (ht ns' hp' hs)
  · exact ht.elim

theorem any_keys (ks : List Int) (j : Int) : (valueAt (ks.map fun k => (k, Value.bool true)) j).isSome = decide (j ∈ ks) := by
  induction ks with
  | nil => simp [valueAt]
  | cons k ks ih =>
    by_cases hk : k = j
    · subst hk; simp [valueAt]
    · have hk' : ¬ j = k := fun e => hk e.symm
      simp only [valueAt, List.map_cons, List.find?_cons, hk, decide_false] at ih ⊢
      rw [ih]
      simp [hk']

/-- «e in found» -/
noncomputable def inOwn (x : Str) (j : Int) (st1 : St) (P : Bool → St → Prop) : Prop := match st1.own with
  | .dct y _ ks => if y = x then P (decide (j ∈ ks)) st1 else False
  | _ => False
noncomputable def T_in (x : Str) (Tl : St → (V → St → Prop) → Prop) (st : St) (P : Bool → St → Prop) : Prop := Tl st fun a st1 => onInt a fun j => inOwn x j st1 P
theorem t_in {l : Expr} {x : Str} {px pos : Pos} {Tl : St → (V → St → Prop) → Prop} (hl : SemE c n sc l Tl) (hm : behindInMarks .In (.Name x px) = false) (hd : (x == ("__debug__" : Str)) = false) (hn : (x == ("__classdict__" : Str)) = false) :
    SemT c n sc (.Compare l [.In] [.Name x px] pos) (T_in x Tl) := by
  intro A X F s st P Q rm ok g ht hq
  refine wpAny_isTrue_Compare1 (hl A X F s st _ _ rm ok g ht fun F1 h1 tk1 u a st1 g1 L1 r1 p1 => ?_) hm
  obtain ⟨j, rfl, p1⟩ := onInt_elim p1
  obtain ⟨t, rfl⟩ : ∃ t, u = .int j t := r1
  unfold inOwn at p1
  split at p1
  · rename_i y d ks ho
    have pq := if_elim p1
    clear p1
    obtain ⟨hyx, hp1⟩ := pq
    subst hyx
    have q := g1.own
    rw [ho] at q
    obtain ⟨S, nf, nL, nc, p, w⟩ := q
    refine wpAny_Name (load_stored (s := { s with heap := h1, toks := tk1 }) ok.kind S ?_ hn) hd
    refine wpAny_in_of (s := { s with heap := h1, toks := tk1 }) (knd := intKind c.prog c.w) (k := j) (by simp [intKind, Value.isInt]) p.2 p.1.mapOf ?_
    rw [show (valueAt (ks.map fun k => (k, Value.bool true)) j).isSome = decide (j ∈ ks) from any_keys ks j]
    exact wpAny_truthy_bool (hq F1 h1 _ _ _ st1 g1 L1 rfl hp1)
  · exact p1.elim

/-- «found[e] = True» -/
noncomputable def addKey (ks : List Int) (j : Int) : List Int := if j ∈ ks then ks else ks ++ [j]
noncomputable def T_setdct (x : Str) (Ti : St → (V → St → Prop) → Prop) (st : St) (P : Fl → St → Prop) : Prop := match st.own with
  | .dct y a ks => if y = x then (Ti st fun iv st1 => onInt iv fun j => st1.own = st.own ∧ ks.length + 1 ≤ sizeLine ∧ P .next { st1 with own := .dct y a (addKey ks j) }) else False
  | _ => False
theorem stored_keys (ks : List Int) (j : Int) : stored (ks.map fun k => (k, Value.bool true)) j (Value.bool true) = (addKey ks j).map fun k => (k, Value.bool true) := by
  have e : ((ks.map fun k => (k, Value.bool true)).any fun kv => decide (kv.1 = j)) = decide (j ∈ ks) := by
    induction ks with
    | nil => simp
    | cons k ks ih =>
      simp only [List.map_cons, List.any_cons, ih, List.mem_cons]
      by_cases hk : k = j
      · simp [hk]
      · have : ¬ j = k := fun e => hk e.symm
        simp [hk, this]
  unfold stored addKey
  rw [e]
  by_cases hj : j ∈ ks
  · rw [if_pos (by simpa using hj), if_pos hj, List.map_map]
    refine List.map_congr_left fun k hk => ?_
    by_cases hkj : k = j <;> simp [hkj]
  · rw [if_neg (by simpa using hj), if_neg hj]; simp
theorem s_setdct {x : Str} {i : Expr} {k : Nat} {px vp sp pos : Pos} {Ti : St → (V → St → Prop) → Prop} (hi : SemE c n sc i Ti)
    (hs : ∀ env, env.scope.kind = .function → swapsWith (.Constant (.bool true) k vp) (some (.Subscript (.Name x px) i sp)) pos.line env = pure false)
    (hd : (x == ("__debug__" : Str)) = false) (hn : (x == ("__classdict__" : Str)) = false) :
    SemS c n sc (.Assign [.Subscript (.Name x px) i sp] (.Constant (.bool true) k vp) pos) (T_setdct x Ti) := by
  intro A X F s st P Q rm ok g ht hq
  unfold T_setdct at ht
  split at ht
  · rename_i y a ks ho
    have pq := if_elim ht
    clear ht
    obtain ⟨rfl, ht⟩ := pq
    refine wpAny_Assign_Subscript (Constant_bool ?_) (hs _ ok.kind)
    have q := g.own
    rw [ho] at q
    obtain ⟨S, _⟩ := q
    refine wpAny_Name (load_stored ok.kind S ?_ hn) hd
    refine hi A X F _ st _ _ rm ok g ht fun F1 h1 tk1 u iv st1 g1 L1 r1 p1 => ?_
    obtain ⟨j, rfl, ho1, hz, p1⟩ := onInt_elim p1
    obtain ⟨t, rfl⟩ : ∃ t, u = .int j t := r1
    have q := g1.own
    rw [ho1, ho] at q
    obtain ⟨S1, nf, nL, nc, p, w⟩ := q
    refine wpAny_setItem_pairs (s := { s with heap := h1, toks := tk1 }) (knd := intKind c.prog c.w) (k := j) (by simp [intKind, Value.isInt]) p.1 (fun h' d' hs' => ?_) (by rw [List.length_map]; lia)
    rw [stored_keys] at d'
    have L : Later F1 h1 F1 h' := sb_later hs' nf
    have kL : ∀ o, h1.get? X.env.locals = some o → h'.get? X.env.locals = some o := fun o e => (hs'.2 _ nL.symm).trans e
    have kc : ∀ y b, X.env.cells.lookup y = some b → ∀ o, h1.get? b = some o → h'.get? b = some o := fun y b lk o e => (hs'.2 b (nc y b lk)).trans e
    refine hq F1 h' _ .next .next { st1 with own := .dct y a (addKey ks j) } ?_ (L1.trans L) rfl p1
    exact {
      stat := g1.stat.later L
      g := g1.g.same L (fun b m o e => (hs'.2 b fun q => w.2.1 (q ▸ m)).trans e) g1.g.nf
      froz := fun b f => by obtain ⟨o, e⟩ := g1.froz b f; exact ⟨o, L.2 b o f e⟩
      fnew := g1.fnew
      kept := fun b o e m => (hs'.2 b fun q => by rw [q, w.1] at e; cases e).trans (g1.kept b o e m)
      ns := by obtain ⟨m, n⟩ := g1.ns; exact ⟨m, n.at' kL⟩
      LF := g1.LF
      cells := fun y b lk => by obtain ⟨⟨v, o, e, d⟩, f⟩ := g1.cells y b lk; exact ⟨⟨v, o, kc y b lk o e, d⟩, f⟩
      pins := fun p hp => ⟨(hs'.2 _ (w.2.2 p hp)).trans (g1.pins p hp).1, (g1.pins p hp).2⟩
      loc := fun y w e => by obtain ⟨q, S, r⟩ := g1.loc y w e; exact ⟨q, S.at kL kc, r.later L⟩
      own := ⟨S1.at kL kc, nf, nL, nc, ⟨d', p.2⟩, w⟩
      noloc := fun y hy => g1.noloc y (by rw [ho1, ho]; exact hy) }
  · exact ht.elim

-- l.index(e)
theorem e_index {o e : Expr} {apos pos : Pos} {pl : Env → Sem Bool} {To Te : St → (V → St → Prop) → Prop} (hto : SemE c n sc o To) (hte : SemE c n sc e Te)
    (he : ∀ env, eval (.Call (.Attribute o "index" apos) [e] [] pos) env = (do
      let ov ← eval o env
      standAt apos.atName
      let (f, first) ← holding [ov] (getMethod ov "index" (pl env))
      callWith pos f first (backTo pos (starEach [e] env)) []))
    (hst : ∀ env, starEach [e] env = [(false, eval e env)]) : SemE c n sc (.Call (.Attribute o "index" apos) [e] [] pos)
      (fun st P => To st fun ov st0 => ∃ ns : List Int, ov = .lst (ns.map .int) ∧ Te st0 fun v st1 => onInt v fun k => k ∈ ns ∧ P (.int (ns.idxOf k)) st1) := by
  intro A X F s st P Q rm ok g ht hq
  refine list_method PySem.F.slot_list_index PySem.F.type_list_index (by rfl) he (fun env => by rw [hst]; rfl) ?_
  refine hto A X F s st _ _ rm ok g ht fun F0 h0 tk0 x ov st0 g0 L0 r0 p0 => ?_
  obtain ⟨ns, rfl, p0⟩ := p0
  obtain ⟨l, xs, rfl, f, p, rr, z⟩ := r0
  refine ⟨l, xs, rfl, p, ?_⟩
  rw [hst]
  refine spliced_back (hte A X F0 _ st0 _ _ rm ok g0 p0 fun F1 h1 tk1 u v st1 g1 L1 r1 p1 => ?_)
  refine spliced_nil ?_
  obtain ⟨k, rfl, hk, p1⟩ := onInt_elim p1
  obtain ⟨t, rfl⟩ : ∃ t, u = .int k t := r1
  have p' : PLst h1 l xs := p.at fun o e => L1.2 l o f e
  obtain ⟨m, ho⟩ := p'
  have hi := RepL.ints rr
  have hlen := hi.length
  have hj : ns.idxOf k < ns.length := List.idxOf_lt_length_iff.mpr hk
  have hb : ns.length ≤ 16777216 := by have := z; rw [List.length_map] at this; exact this
  refine call_meets (s := { s with heap := h1, toks := tk1 }) PySem.F.slot_list_index ⟨_, ho, rfl⟩ PySem.F.entry_list_index (PySem.F.args_list_index_2 _ _)
    (SeqAt.list_indexAt l xs.toArray m none #[] (.int k t) (isInt k) (ns.idxOf k) (by simpa [hlen] using hj) (by lia) ?_ ?_) ⟨ho, fun y hy => (eq_isInt k t hi y (by simpa using hy)).at _ _, hq F1 h1 _ _ _ st1 g1 (L0.trans L1) (rep_int _ _) p1⟩
  · show isInt k xs[ns.idxOf k] = true
    rw [isInt_at k hi _ (by lia) hj]
    simpa using List.getElem_idxOf hj
  · intro j hjs hlt
    show isInt k xs[j] = false
    rw [isInt_at k hi j (by simpa using hjs) (by lia)]
    exact ne_of_lt_idxOf hlt _

-- x, y = (a, b)
theorem s_swap {x y : Str} {px py tp pos : Pos} {k : Nat} {value : Expr} {T : St → (V → St → Prop) → Prop} (he : SemE c n sc value T) (hx : sc.lookup x = some .local) (hy : sc.lookup y = some .local)
    (hs : ∀ env, swapsWithSole [.Tuple [.Name x px, .Name y py] k tp] value pos.line env = pure false)
    (hw : ∀ env, env.scope.kind = .function → env.kindOf x = some .local → env.kindOf y = some .local → swappedStores [.Tuple [.Name x px, .Name y py] k tp] value env = pure (some [x, y])) :
    SemS c n sc (.Assign [.Tuple [.Name x px, .Name y py] k tp] value pos) (fun st P => T st fun v st1 => match v with | .tup [a, b] => P .next ((st1.set y b).set x a) | _ => False) := by
  intro A X F s st P Q rm ok g ht hq
  refine Assign_Tuple_swapped (he A X F s st _ _ rm ok g ht fun F1 h1 tk1 u v st1 g1 L1 r1 p1 => ?_) (hs _) (hw _ ok.kind (ok.loc x hx) (ok.loc y hy))
  split at p1
  · rename_i a b
    obtain ⟨T, xs, rfl, fT, pT, rT, zT⟩ := r1
    obtain ⟨u, r', rfl, ru, w, r'', rfl, rw', e0⟩ := rT
    cases e0
    refine wpAny_unpackItems_tuple (s := { s with heap := h1, toks := tk1 }) (items := #[u, w]) rm.h pT.isTuple fun h2 he2 => ?_
    have up : ∀ c o, h1.get? c = some o → h2.get? c = some o := fun c o e => he2 c o (Nat.ne_of_lt (Heap.lt_size e)) e
    have g2 := g1.keepAll ok up
    have L2 : Later F1 h1 F1 h2 := Later.keepAll up
    show wpAny _ _ (assignInOrder [bindName X.env y, bindName X.env x] [w, u]) _ _ _
    refine assignInOrder_cons (bindName_ (store_loc (s := { s with heap := h2, toks := tk1 }) g2 ok (rw'.later L2) (.inl hy) fun h3 tk3 g3 L3 => ?_))
    refine assignInOrder_cons (bindName_ (store_loc (s := { s with heap := h3, toks := tk3 }) g3 ok ((ru.later L2).later L3) (.inl hx) fun h4 tk4 g4 L4 => ?_))
    exact assignInOrder_nil (hq F1 h4 tk4 .next .next _ g4 (((L1.trans L2).trans L3).trans L4) rfl p1)
  · exact p1.elim
theorem s_two {x y : Str} {px py tp pos : Pos} {k : Nat} {value : Expr} {T : St → (V → St → Prop) → Prop} (he : SemE c n sc value T) (hx : sc.lookup x = some .local ∨ sc.lookup x = some .cell) (hy : sc.lookup y = some .local ∨ sc.lookup y = some .cell)
    (hs : ∀ env, swapsWithSole [.Tuple [.Name x px, .Name y py] k tp] value pos.line env = pure false)
    (hw : ∀ env, env.scope.kind = .function → (∀ z t, sc.lookup z = some t → t = .local ∨ t = .cell → env.kindOf z = some t) → swappedStores [.Tuple [.Name x px, .Name y py] k tp] value env = pure none) :
    SemS c n sc (.Assign [.Tuple [.Name x px, .Name y py] k tp] value pos) (fun st P => T st fun v st1 => match v with | .tup [a, b] => P .next ((st1.set x a).set y b) | _ => False) := by
  intro A X F s st P Q rm ok g ht hq
  refine Assign_Tuple (he A X F s st _ _ rm ok g ht fun F1 h1 tk1 u v st1 g1 L1 r1 p1 => ?_) (hs _) (hw _ ok.kind fun z t hz ht => by
    rcases ht with rfl | rfl
    · exact ok.loc z hz
    · exact (ok.cell z hz).1)
  split at p1
  · rename_i a b
    obtain ⟨T, xs, rfl, fT, pT, rT, zT⟩ := r1
    obtain ⟨u, r', rfl, ru, w, r'', rfl, rw', e0⟩ := rT
    cases e0
    refine assign_tgt (.pair hx hy) (s := { s with heap := h1, toks := tk1 }) (it := .two a b) (P := fun st2 => P .next st2) rm.h ok g1 ⟨T, u, w, rfl, pT.isTuple, ru, rw'⟩ p1 fun h2 tk2 st2 g2 L2 hP => ?_
    exact hq F1 h2 tk2 .next .next st2 g2 (L1.trans L2) rfl hP
  · exact p1.elim
end
end Mine

namespace Mine

abbrev ZB (h : Heap) (z TI TO : Addr) (f0 f1 : Value) : Prop :=
  h.get? z = some { cls := .type "zip", dict := none, data := .fields #[f0, f1, .bool false, .ref TI, .ref TO], slots := #[] }

section
variable {prog : Program} {w : World} {A : Around} {E : Value → Shared → Prop} {s : Shared}

theorem zipB_item {z TI TO i1 i2 l1 l2 T : Addr} {oT : Obj} {f : Bool} {k1 k2 : Nat} {xs ys : Array Value} {x y : Value} {Q : Value → Shared → Prop} (D : ZipApart z TI TO i1 i2 l1 l2)
    (hz : ZB s.heap z TI TO (rawInt T) (.bool f)) (hT : s.heap.get? T = some oT) (hTI : IsPair s.heap TI (.ref i1) (.ref i2))
    (h1 : s.heap.IsListIter i1 l1 k1) (h2 : s.heap.IsListIter i2 l2 k2) (hl1 : s.heap.IsList l1 xs) (hl2 : s.heap.IsList l2 ys) (hx : xs[k1]? = some x) (hy : ys[k2]? = some y)
    (hQ : ∀ h', ZB h' z TI TO (rawInt T) (.bool true) → h'.IsListIter i1 l1 (k1 + 1) → h'.IsListIter i2 l2 (k2 + 1) → IsPair h' s.heap.objs.size x y → h'.objs.size = s.heap.objs.size + 1 →
      (∀ c o, c ≠ z → c ≠ i1 → c ≠ i2 → s.heap.get? c = some o → h'.get? c = some o) → Q (.ref s.heap.objs.size) { s with heap := h' }) :
    wpAny (model prog w) A (Builtin.«zip.__next__» ⟨[.ref z], []⟩) (fun fin s' => ∃ v, fin = .done (.ret v) ∧ Q v s') E s := by
  show wpAny _ _ (field (.ref z) 2 >>= _) _ _ _
  refine wpAny_bind (wpAny_field hz rfl (x := .bool false) rfl ?_)
  show wpAny _ _ (field (.ref z) 3 >>= _) _ _ _
  refine wpAny_bind (wpAny_field hz rfl (x := .ref TI) rfl ?_)
  refine wpAny_bind (wpAny_seqItems hTI rfl ?_)
  show wpAny _ _ (Builtin.SmallTypes.ownedTupleIsFree (.ref z) >>= _) _ _ _
  have free : ∀ {R : Bool → Shared → Prop} {E : Value → Shared → Prop}, (∀ h₁, ZB h₁ z TI TO (rawInt T) (.bool true) → Heap.SameBut z s.heap h₁ → R false { s with heap := h₁ }) → wpAny (model prog w) A (Builtin.SmallTypes.ownedTupleIsFree (.ref z)) R E s := by
    intro R E hR
    unfold Builtin.SmallTypes.ownedTupleIsFree
    refine wpAny_bind (wpAny_field hz rfl (x := rawInt T) rfl ?_)
    show wpAny _ _ (loadIfAlive (T : Int).toNat >>= _) _ _ _
    rw [Int.toNat_natCast]
    refine wpAny_bind (kdx_alive hT ?_)
    simp only [Option.isNone_some, Bool.false_eq_true, if_false]
    refine wpAny_bind (wpAny_field hz rfl (x := .bool f) rfl ?_)
    cases f with
    | false =>
      rw [if_pos (by decide)]
      exact wpAny_bind (wpAny_setField_rec hz (by simp) fun h₁ hz₁ hs₁ => wpAny_pure (hR h₁ hz₁ hs₁))
    | true =>
      rw [if_neg (by decide)]
      exact wpAny_pure (hR s.heap hz ⟨rfl, fun _ _ => rfl⟩)
  refine wpAny_bind (free fun h₁ hz₁ hs₁ => ?_)
  show wpAny _ _ (if false = true then _ else _) _ _ _
  rw [if_neg (by simp)]
  dsimp only
  rw [← Array.forIn_toList]
  simp only [List.forIn_cons, List.forIn_nil]
  refine wpAny_bind (wpAny_bind (wpAny_bind (wpAny_holding ?_)))
  show wpAny _ _ (Builtin.SmallTypes.nextOf (.ref i1) >>= _) _ _ _
  refine wpAny_bind (wpAny_nextOf_list_item (h1.extBut hs₁.extBut D.i1z) (hl1.extBut hs₁.extBut D.l1z) hx fun h₂ h1₂ hs₂ => wpAny_pure (wpAny_pure ?_))
  dsimp only
  refine wpAny_bind (wpAny_bind (wpAny_holding ?_))
  show wpAny _ _ (Builtin.SmallTypes.nextOf (.ref i2) >>= _) _ _ _
  refine wpAny_bind (wpAny_nextOf_list_item ((h2.extBut hs₁.extBut D.i2z).extBut hs₂.extBut D.i12.symm) ((hl2.extBut hs₁.extBut D.l2z).extBut hs₂.extBut D.l2i1) hy fun h₄ h2₄ hs₄ => wpAny_pure (wpAny_pure ?_))
  dsimp only
  refine wpAny_pure ?_
  have hsz : h₄.objs.size = s.heap.objs.size := by rw [hs₄.1, hs₂.1, hs₁.1]
  refine wpAny_bind (wpAny_newTuple (wpAny_pure ⟨_, rfl, ?_⟩) (by show 2 ≤ 16777216; lia))
  show Q (.ref h₄.objs.size) { s with heap := h₄.push { cls := .type "tuple", data := .seq #[x, y] } }
  have hz₄ : ZB h₄ z TI TO (rawInt T) (.bool true) := hs₄.extBut _ _ D.i2z.symm (hs₂.extBut _ _ D.i1z.symm hz₁)
  have h1₄ : h₄.IsListIter i1 l1 (k1 + 1) := h1₂.extBut hs₄.extBut D.i12
  have up : ∀ c o, h₄.get? c = some o → (h₄.push { cls := .type "tuple", data := .seq #[x, y] }).get? c = some o := fun c o e => Heap.get?_push_of_some _ e
  rw [hsz]
  refine hQ _ (up _ _ hz₄) (h1₄.at fun o e => up _ o e) (h2₄.at fun o e => up _ o e) (by rw [← hsz]; exact Heap.get?_push_size _ rfl) (by rw [Heap.size_push, hsz]) fun c o c1 c2 c3 e => up _ _ (hs₄.extBut _ _ c3 (hs₂.extBut _ _ c2 (hs₁.extBut _ _ c1 e)))

theorem zipB_end {z TI TO i1 i2 l1 l2 T : Addr} {oT : Obj} {f : Bool} {k1 : Nat} {xs : Array Value} {Q : Fin → Shared → Prop} (hh : A.handled = none) (D : ZipApart z TI TO i1 i2 l1 l2)
    (hz : ZB s.heap z TI TO (rawInt T) (.bool f)) (hT : s.heap.get? T = some oT) (hTI : IsPair s.heap TI (.ref i1) (.ref i2))
    (h1 : s.heap.IsListIter i1 l1 k1) (hl1 : s.heap.IsList l1 xs) (hx : xs[k1]? = none)
    (hE : ∀ h' e, (∀ c o, c ≠ z → c ≠ i1 → s.heap.get? c = some o → h'.get? c = some o) → (∃ o, h'.get? e = some o ∧ o.cls = .type "StopIteration") → E (.ref e) { s with heap := h' }) :
    wpAny (model prog w) A (Builtin.«zip.__next__» ⟨[.ref z], []⟩) Q E s := by
  show wpAny _ _ (field (.ref z) 2 >>= _) _ _ _
  refine wpAny_bind (wpAny_field hz rfl (x := .bool false) rfl ?_)
  show wpAny _ _ (field (.ref z) 3 >>= _) _ _ _
  refine wpAny_bind (wpAny_field hz rfl (x := .ref TI) rfl ?_)
  refine wpAny_bind (wpAny_seqItems hTI rfl ?_)
  show wpAny _ _ (Builtin.SmallTypes.ownedTupleIsFree (.ref z) >>= _) _ _ _
  have free : ∀ {R : Bool → Shared → Prop} {E : Value → Shared → Prop}, (∀ h₁, ZB h₁ z TI TO (rawInt T) (.bool true) → Heap.SameBut z s.heap h₁ → R false { s with heap := h₁ }) → wpAny (model prog w) A (Builtin.SmallTypes.ownedTupleIsFree (.ref z)) R E s := by
    intro R E hR
    unfold Builtin.SmallTypes.ownedTupleIsFree
    refine wpAny_bind (wpAny_field hz rfl (x := rawInt T) rfl ?_)
    show wpAny _ _ (loadIfAlive (T : Int).toNat >>= _) _ _ _
    rw [Int.toNat_natCast]
    refine wpAny_bind (kdx_alive hT ?_)
    simp only [Option.isNone_some, Bool.false_eq_true, if_false]
    refine wpAny_bind (wpAny_field hz rfl (x := .bool f) rfl ?_)
    cases f with
    | false =>
      rw [if_pos (by decide)]
      exact wpAny_bind (wpAny_setField_rec hz (by simp) fun h₁ hz₁ hs₁ => wpAny_pure (hR h₁ hz₁ hs₁))
    | true =>
      rw [if_neg (by decide)]
      exact wpAny_pure (hR s.heap hz ⟨rfl, fun _ _ => rfl⟩)
  refine wpAny_bind (free fun h₁ hz₁ hs₁ => ?_)
  show wpAny _ _ (if false = true then _ else _) _ _ _
  rw [if_neg (by simp)]
  dsimp only
  rw [← Array.forIn_toList]
  simp only [List.forIn_cons, List.forIn_nil]
  refine wpAny_bind (wpAny_bind (wpAny_bind (wpAny_holding ?_)))
  show wpAny _ _ (Builtin.SmallTypes.nextOf (.ref i1) >>= _) _ _ _
  refine wpAny_bind (wpAny_nextOf_list_end hh (h1.extBut hs₁.extBut D.i1z) (hl1.extBut hs₁.extBut D.l1z) hx fun h₂ e hs₂ he => ?_)
  exact hE h₂ e (fun c o c1 c3 x => hs₂ _ _ c3 (hs₁.extBut _ _ c1 x)) he

theorem next_zipB_item {z TI TO i1 i2 l1 l2 T : Addr} {oT : Obj} {f : Bool} {k1 k2 : Nat} {xs ys : Array Value} {x y : Value} {Q : Option Value → Shared → Prop} (D : ZipApart z TI TO i1 i2 l1 l2)
    (hz : ZB s.heap z TI TO (rawInt T) (.bool f)) (hT : s.heap.get? T = some oT) (hTI : IsPair s.heap TI (.ref i1) (.ref i2))
    (h1 : s.heap.IsListIter i1 l1 k1) (h2 : s.heap.IsListIter i2 l2 k2) (hl1 : s.heap.IsList l1 xs) (hl2 : s.heap.IsList l2 ys) (hx : xs[k1]? = some x) (hy : ys[k2]? = some y)
    (hQ : ∀ h', ZB h' z TI TO (rawInt T) (.bool true) → h'.IsListIter i1 l1 (k1 + 1) → h'.IsListIter i2 l2 (k2 + 1) → IsPair h' s.heap.objs.size x y → h'.objs.size = s.heap.objs.size + 1 →
      (∀ c o, c ≠ z → c ≠ i1 → c ≠ i2 → s.heap.get? c = some o → h'.get? c = some o) → Q (some (.ref s.heap.objs.size)) { s with heap := h' }) : wpAny (model prog w) A (pyNext (.ref z)) Q E s := by
  have hT' : s.TypeIs (.ref z) "zip" := ⟨_, hz, rfl⟩
  unfold pyNext
  exact wpAny_bind (wpAny_attempt (wpAny_callSpecial?_slot (name := Str.ofString "__next__") hT' PySem.F.slot_zip_next
    (wpAny_call_entry PySem.F.slot_zip_next hT' PySem.F.entry_zip_next
      (zipB_item D hz hT hTI h1 h2 hl1 hl2 hx hy fun h' a1 a2 a3 a4 a5 a6 => wpAny_pure (hQ h' a1 a2 a3 a4 a5 a6)) (PySem.F.args_zip_next_1 _))))
theorem next_zipB_end {z TI TO i1 i2 l1 l2 T : Addr} {oT : Obj} {f : Bool} {k1 : Nat} {xs : Array Value} {Q : Option Value → Shared → Prop} (hh : A.handled = none) (D : ZipApart z TI TO i1 i2 l1 l2)
    (hz : ZB s.heap z TI TO (rawInt T) (.bool f)) (hT : s.heap.get? T = some oT) (hTI : IsPair s.heap TI (.ref i1) (.ref i2))
    (h1 : s.heap.IsListIter i1 l1 k1) (hl1 : s.heap.IsList l1 xs) (hx : xs[k1]? = none)
    (hQ : ∀ h', (∀ c o, c ≠ z → c ≠ i1 → s.heap.get? c = some o → h'.get? c = some o) → Q none { s with heap := h' }) : wpAny (model prog w) A (pyNext (.ref z)) Q E s := by
  have hT' : s.TypeIs (.ref z) "zip" := ⟨_, hz, rfl⟩
  unfold pyNext
  refine wpAny_bind (wpAny_attempt (wpAny_callSpecial?_slot (name := Str.ofString "__next__") hT' PySem.F.slot_zip_next
    (wpAny_call_entry PySem.F.slot_zip_next hT' PySem.F.entry_zip_next (zipB_end hh D hz hT hTI h1 hl1 hx fun h' e hk he => ?_) (PySem.F.args_zip_next_1 _))))
  obtain ⟨o, ho, hc⟩ := he
  refine wpAny_bind (wpAny_isInstance (T := "StopIteration") (b := true) ⟨o, ho, hc⟩ isSubtype_stop ?_)
  exact wpAny_pure (hQ _ hk)

/-- what the list under way knows of the zip -/
structure ZSt (h : Heap) (z TI TO i1 i2 l1 l2 : Addr) (xs ys : List Value) (S : Addr) (i : Nat) (acc : List Value) : Prop where
  zip : (i = 0 ∧ ZB h z TI TO .none (.bool false)) ∨ ∃ (T : Addr) (f : Bool) (oT : Obj), ZB h z TI TO (rawInt T) (.bool f) ∧ h.get? T = some oT ∧ T ≠ S ∧ T ≠ z ∧ T ≠ TO ∧ T ≠ i1 ∧ T ≠ i2
  pTI : IsPair h TI (.ref i1) (.ref i2)
  pTO : ∃ a b, IsPair h TO a b
  h1 : h.IsListIter i1 l1 i
  h2 : h.IsListIter i2 l2 i
  hl1 : h.IsList l1 xs.toArray
  hl2 : h.IsList l2 ys.toArray
  hS : ∃ m, h.get? S = some { cls := .type "list", dict := none, data := .seq acc.toArray m, slots := #[] }
  len : acc.length = i
  each : ∀ j, j < i → ∃ T x y, acc[j]? = some (.ref T) ∧ xs[j]? = some x ∧ ys[j]? = some y ∧ h.get? T = some { cls := .type "tuple", data := .seq #[x, y] } ∧ T ≠ S ∧ T ≠ z ∧ T ≠ TO ∧ T ≠ i1 ∧ T ≠ i2

theorem zip_loop {h₀ : Heap} {z TI TO i1 i2 l1 l2 S : Addr} {xs ys : List Value} {R : Result → Shared → Prop} (hh : A.handled = none) (D : ZipApart z TI TO i1 i2 l1 l2) (hS : S ≠ z ∧ S ≠ TI ∧ S ≠ TO ∧ S ≠ i1 ∧ S ≠ i2 ∧ S ≠ l1 ∧ S ≠ l2) (hlen : xs.length = ys.length) (hn : xs.length ≤ sizeLine) (res : Value)
    (old : ∀ b o, h₀.get? b = some o → b ≠ z ∧ b ≠ TO ∧ b ≠ i1 ∧ b ≠ i2 ∧ b ≠ S)
    (hR : ∀ (h' : Heap) (tk : Nat) (acc : List Value) (m : Nat), (∀ b o, h₀.get? b = some o → h'.get? b = some o) → h'.get? S = some { cls := .type "list", dict := none, data := .seq acc.toArray m, slots := #[] } → acc.length = xs.length →
      (∀ j, j < xs.length → ∃ T x y, acc[j]? = some (.ref T) ∧ xs[j]? = some x ∧ ys[j]? = some y ∧ h'.get? T = some { cls := .type "tuple", data := .seq #[x, y] } ∧ h₀.get? T = none) → R (.ok (.ret res)) { s with heap := h', toks := tk }) :
    ∀ (k i : Nat) (h : Heap) (tk : Nat) (acc : List Value), xs.length - i = k → i ≤ xs.length → (∀ b o, h₀.get? b = some o → h.get? b = some o) → (∀ (j : Nat) (T : Addr), acc[j]? = some (Value.ref T) → h₀.get? T = none) → ZSt h z TI TO i1 i2 l1 l2 xs ys S i acc →
      codeAny (model prog w) A (.builtin "list.extend.loop" ⟨[.ref S, .ref z, res], []⟩) R { s with heap := h, toks := tk } := by
  obtain ⟨Sz, STI, STO, Si1, Si2, Sl1, Sl2⟩ := hS
  intro k
  induction k with
  | zero =>
    intro i h tk acc hk hi hold hfr st
    obtain rfl : i = xs.length := by lia
    refine codeAny_builtin PySem.F.entry_extend_loop ?_
    rw [Around.under_plainId PySem.F.plain_extend_loop _]
    show wpAny _ A.in1 (pyNext (.ref z) >>= _) _ _ _
    have hx : xs.toArray[xs.length]? = none := by simp
    have fin : ∀ h', (∀ c o, c ≠ z → c ≠ TO → c ≠ i1 → c ≠ i2 → h.get? c = some o → h'.get? c = some o) → R (.ok (.ret res)) { s with heap := h', toks := tk } := fun h' hk' => by
      obtain ⟨m, e⟩ := st.hS
      refine hR h' tk acc m (fun b o e => let ⟨a1, a2, a3, a4, _⟩ := old b o e; hk' b o a1 a2 a3 a4 (hold b o e)) (hk' _ _ Sz STO Si1 Si2 e) st.len fun j hj => ?_
      obtain ⟨T, x, y, e1, e2, e3, e4, _, t1, t2, t3, t4⟩ := st.each j hj
      exact ⟨T, x, y, e1, e2, e3, hk' _ _ t1 t2 t3 t4 e4, hfr j T e1⟩
    rcases st.zip with ⟨h0, hz⟩ | ⟨T, f, oT, hz, hT, _⟩
    · obtain ⟨a, b, hTO⟩ := st.pTO
      refine wpAny_bind (wpAny_pyNext_zip_end (s := { s with heap := h, toks := tk }) hh D hz st.pTI hTO st.h1 st.h2 st.hl1 st.hl2 (.inl hx) fun h' hk' => ?_)
      exact wpAny_pure (fin h' hk')
    · refine wpAny_bind (next_zipB_end (s := { s with heap := h, toks := tk }) hh D hz hT st.pTI st.h1 st.hl1 hx fun h' hk' => ?_)
      exact wpAny_pure (fin h' fun c o c1 _ c3 _ e => hk' c o c1 c3 e)
  | succ k ih =>
    intro i h tk acc hk hi hold hfr st
    have hlt : i < xs.length := by lia
    have hx : xs.toArray[i]? = some xs[i] := by simp [hlt]
    have hy : ys.toArray[i]? = some ys[i] := by simp [hlen ▸ hlt]
    refine codeAny_builtin PySem.F.entry_extend_loop ?_
    rw [Around.under_plainId PySem.F.plain_extend_loop _]
    show wpAny _ A.in1 (pyNext (.ref z) >>= _) _ _ _
    -- what stands after an item
    have step : ∀ (h' : Heap) (B : Addr), B = h.objs.size → (∃ (T : Addr) (f : Bool) (oT : Obj), ZB h' z TI TO (rawInt T) (.bool f) ∧ h'.get? T = some oT ∧ T ≠ S ∧ T ≠ z ∧ T ≠ TO ∧ T ≠ i1 ∧ T ≠ i2) → (∃ a b, IsPair h' TO a b) → h'.IsListIter i1 l1 (i + 1) → h'.IsListIter i2 l2 (i + 1) → IsPair h' B xs[i] ys[i] →
        (∀ c o, c ≠ z → c ≠ TO → c ≠ i1 → c ≠ i2 → h.get? c = some o → h'.get? c = some o) →
        wpAny (model prog w) A.in1 (updateSeq S (·.push (.ref B)) >>= fun _ => again (.builtin "list.extend.loop" ⟨[.ref S, .ref z, res], []⟩))
          (fun fin s' => match fin with | .done f => R (.ok f) s' | .again c' => c'.quiet = true ∧ codeAny (model prog w) A c' R s') (fun e s' => R (.error e) s') { s with heap := h', toks := tk } := by
      intro h' B eB hzip hTO h1' h2' hp hk'
      obtain ⟨m, hSe⟩ := st.hS
      have hS' := hk' _ _ Sz STO Si1 Si2 hSe
      have Blt : ∀ {c o}, h.get? c = some o → B ≠ c := fun e => by rw [eB]; exact Nat.ne_of_gt (Heap.lt_size e)
      have BS : B ≠ S := Blt hSe
      have Bz : B ≠ z := by
        rcases st.zip with ⟨_, hz⟩ | ⟨T, f, oT, hz, _⟩
        · exact Blt hz
        · exact Blt hz
      have BTO : B ≠ TO := by obtain ⟨a, b, e⟩ := st.pTO; exact Blt e
      have Bi1 : B ≠ i1 := by obtain ⟨_, e, _⟩ := st.h1; exact Blt e
      have Bi2 : B ≠ i2 := by obtain ⟨_, e, _⟩ := st.h2; exact Blt e
      have hacc : acc.length = i := st.len
      refine wpAny_bind ?_
      refine wpAny_updateSeq hS' rfl (wpAny_pure ⟨plainId_quiet PySem.F.plain_extend_loop _, ?_⟩) (by rw [List.size_toArray, hacc]; lia) (by show (acc.toArray.push (.ref B)).size ≤ sizeLine + 1; rw [Array.size_push, List.size_toArray, hacc]; lia)
      obtain ⟨h'', e''⟩ : ∃ h'', h'' = h'.update S (Obj.mapSeq (·.push (.ref B))) := ⟨_, rfl⟩
      have oth : ∀ b o, b ≠ S → h'.get? b = some o → h''.get? b = some o := fun b o hb e => by rw [e'']; exact (Heap.get?_update_other _ _ (Ne.symm hb)).trans e
      have hSn : ∃ m, h''.get? S = some { cls := .type "list", dict := none, data := .seq (acc ++ [Value.ref B]).toArray m, slots := #[] } := by
        rw [e'']
        have := Heap.get?_update_self (Obj.mapSeq (·.push (.ref B))) hS' rfl
        exact ⟨_, this.trans (by rw [← List.push_toArray]; rfl)⟩
      show codeAny (model prog w) A _ R { s with heap := h'.update S (Obj.mapSeq (·.push (.ref B))), toks := tk }
      rw [← e'']
      have hn0 : h₀.get? B = none := by
        cases q : h₀.get? B with
        | none => rfl
        | some o => have := Heap.lt_size (hold _ _ q); rw [eB] at this; exact absurd this (Nat.lt_irrefl _)
      refine ih (i + 1) h'' tk (acc ++ [Value.ref B]) (by lia) hlt (fun b o e => let ⟨a1, a2, a3, a4, a5⟩ := old b o e; oth b o a5 (hk' b o a1 a2 a3 a4 (hold b o e))) (fun j T e => ?_) ?_
      · by_cases hj : j < acc.length
        · rw [List.getElem?_append_left hj] at e; exact hfr j T e
        · rw [List.getElem?_append_right (by lia)] at e
          have : j - acc.length = 0 := by
            have := (List.getElem?_eq_some_iff.mp e).1
            simp at this; lia
          rw [this] at e; simp at e; rw [← e]; exact hn0
      · exact {
          zip := .inr (let ⟨T, f, oT, a1, a2, a3, a4, a5, a6, a7⟩ := hzip; ⟨T, f, oT, oth _ _ (Ne.symm Sz) a1, oth _ _ a3 a2, a3, a4, a5, a6, a7⟩)
          pTI := oth _ _ (Ne.symm STI) (hk' _ _ D.TIz D.TITO D.TIi1 D.TIi2 st.pTI)
          pTO := by obtain ⟨a, b, e⟩ := hTO; exact ⟨a, b, oth _ _ (Ne.symm STO) e⟩
          h1 := h1'.at fun o e => oth _ o (Ne.symm Si1) e
          h2 := h2'.at fun o e => oth _ o (Ne.symm Si2) e
          hl1 := st.hl1.at fun o e => oth _ o (Ne.symm Sl1) (hk' _ o D.l1z D.l1TO D.l1i1 D.l1i2 e)
          hl2 := st.hl2.at fun o e => oth _ o (Ne.symm Sl2) (hk' _ o D.l2z D.l2TO D.l2i1 D.l2i2 e)
          hS := hSn
          len := by simp [hacc]
          each := fun j hj => by
            by_cases hji : j < i
            · obtain ⟨T, x, y, e1, e2, e3, e4, t0, t1, t2, t3, t4⟩ := st.each j hji
              exact ⟨T, x, y, by rw [List.getElem?_append_left (by lia)]; exact e1, e2, e3, oth _ _ t0 (hk' _ _ t1 t2 t3 t4 e4), t0, t1, t2, t3, t4⟩
            · obtain rfl : j = i := by lia
              exact ⟨B, xs[j], ys[j], by rw [List.getElem?_append_right (by lia)]; simp [hacc], by simp [hlt], by simp [hlen ▸ hlt], oth _ _ BS hp, BS, Bz, BTO, Bi1, Bi2⟩ }
    rcases st.zip with ⟨h0, hz⟩ | ⟨T, f, oT, hz, hT, TS, Tz, TTO, Ti1, Ti2⟩
    · obtain ⟨a, b, hTO⟩ := st.pTO
      refine wpAny_bind (wpAny_pyNext_zip_item (s := { s with heap := h, toks := tk }) D hz st.pTI hTO st.h1 st.h2 st.hl1 st.hl2 hx hy fun h' a1 a2 a3 a4 a5 a6 hk' => ?_)
      have Blt : ∀ {c o}, h.get? c = some o → h.objs.size ≠ c := fun e => Nat.ne_of_gt (Heap.lt_size e)
      obtain ⟨m, hSe⟩ := st.hS
      refine step h' h.objs.size rfl ⟨h.objs.size, false, _, a1, a5, Blt hSe, Blt hz, Blt hTO, ?_, ?_⟩ ⟨_, _, a2⟩ a3 a4 a5 hk'
      · obtain ⟨_, e, _⟩ := st.h1; exact Blt e
      · obtain ⟨_, e, _⟩ := st.h2; exact Blt e
    · refine wpAny_bind (next_zipB_item (s := { s with heap := h, toks := tk }) D hz hT st.pTI st.h1 st.h2 st.hl1 st.hl2 hx hy fun h' a1 a3 a4 a5 a6 hk' => ?_)
      obtain ⟨a, b, hTO⟩ := st.pTO
      exact step h' h.objs.size rfl ⟨T, true, oT, a1, hk' _ _ Tz Ti1 Ti2 hT, TS, Tz, TTO, Ti1, Ti2⟩ ⟨a, b, hk' _ _ D.TOz D.TOi1 D.TOi2 hTO⟩ a3 a4 a5 fun c o c1 _ c3 c4 e => hk' c o c1 c3 c4 e

theorem zip_no_len : typeLookup (.type "zip") "__len__" = pure none := by rw [typeLookup_type, builtinLookup_eq_fast]; kernel_rfl
theorem zip_no_hint : typeLookup (.type "zip") "__length_hint__" = pure none := by rw [typeLookup_type, builtinLookup_eq_fast]; kernel_rfl

/-- list(z) of a zip that was just made over two lists of one length -/
theorem call_list_zip {z TI TO i1 i2 l1 l2 : Addr} {xs ys : List Value} {Q : Value → Shared → Prop} (hh : A.handled = none) (D : ZipApart z TI TO i1 i2 l1 l2) {h₀ : Heap} (hold : ∀ b o, h₀.get? b = some o → s.heap.get? b = some o) (old : ∀ b o, h₀.get? b = some o → b ≠ z ∧ b ≠ TO ∧ b ≠ i1 ∧ b ≠ i2)
    (hz : IsZip s.heap z TI TO .none) (hTI : IsPair s.heap TI (.ref i1) (.ref i2)) (hTO : ∃ a b, IsPair s.heap TO a b) (h1 : s.heap.IsListIter i1 l1 0) (h2 : s.heap.IsListIter i2 l2 0) (hl1 : s.heap.IsList l1 xs.toArray) (hl2 : s.heap.IsList l2 ys.toArray) (hlen : xs.length = ys.length) (hn : xs.length ≤ sizeLine)
    (hQ : ∀ (S : Addr) (h' : Heap) (tk : Nat) (acc : List Value) (m : Nat), (∀ b o, h₀.get? b = some o → h'.get? b = some o) → h₀.get? S = none → h'.get? S = some { cls := .type "list", dict := none, data := .seq acc.toArray m, slots := #[] } → acc.length = xs.length →
      (∀ j, j < xs.length → ∃ T x y, acc[j]? = some (.ref T) ∧ xs[j]? = some x ∧ ys[j]? = some y ∧ h'.get? T = some { cls := .type "tuple", data := .seq #[x, y] } ∧ h₀.get? T = none) → Q (.ref S) { s with heap := h', toks := tk }) :
    wpAny (model prog w) A (call (.type "list") [.ref z]) Q E s := by
  refine callType_codes (Q₁ := fun obj s₁ => obj = .ref s.heap.objs.size ∧ s₁ = { s with heap := s.heap.push { cls := .type "list", data := .seq #[] } }) PySem.F.called_list (PySem.F.typeCall_list_1 _) PySem.F.entry_list_init
    (code_list_new _ ⟨rfl, rfl⟩) fun obj s₁ h₁ => ?_
  obtain ⟨rfl, rfl⟩ := h₁
  obtain ⟨S, eS⟩ : ∃ S, S = s.heap.objs.size := ⟨_, rfl⟩
  obtain ⟨g, eg⟩ : ∃ g, g = s.heap.push { cls := .type "list", data := .seq #[] } := ⟨_, rfl⟩
  have hS : g.get? S = some { cls := .type "list", data := .seq #[] } := by rw [eg, eS]; exact Heap.get?_push_size _ rfl
  have up : ∀ b o, s.heap.get? b = some o → g.get? b = some o := fun b o e => by rw [eg]; exact Heap.get?_push_of_some _ e
  have Slt : ∀ {c o}, s.heap.get? c = some o → S ≠ c := fun e => by rw [eS]; exact Nat.ne_of_gt (Heap.lt_size e)
  have Sz := Slt hz
  have STI := Slt hTI
  have STO : S ≠ TO := by obtain ⟨a, b, e⟩ := hTO; exact Slt e
  have Si1 : S ≠ i1 := by obtain ⟨_, e, _⟩ := h1; exact Slt e
  have Si2 : S ≠ i2 := by obtain ⟨_, e, _⟩ := h2; exact Slt e
  have Sl1 : S ≠ l1 := by obtain ⟨_, e, _⟩ := hl1; exact Slt e
  have Sl2 : S ≠ l2 := by obtain ⟨_, e, _⟩ := hl2; exact Slt e
  have S0 : h₀.get? S = none := by
    cases q : h₀.get? S with
    | none => rfl
    | some o => exact absurd rfl (Slt (hold _ _ q))
  rw [← eS, ← eg]
  refine ⟨⟨_, hS, rfl⟩, PySem.F.args_list_init_2 _ _, ?_⟩
  show wpAny _ _ (do let old ← Builtin.List.listItems (.ref S); Builtin.List.listUpdate (.ref S) (fun _ => #[]); letGo old.toList.reverse; Builtin.List.listExtendWith (.ref S) (.ref z) .none) _ _ _
  refine wpAny_bind ?_
  unfold Builtin.List.listItems
  refine wpAny_bind (wpAny_seqItems (s := { s with heap := g }) hS rfl (wpAny_pure ?_))
  show wpAny _ _ (updateSeq S (fun _ => #[]) >>= fun _ => letGo (#[] : Array Value).toList.reverse >>= fun _ => Builtin.List.listExtendWith (.ref S) (.ref z) .none) _ _ _
  refine wpAny_bind (wpAny_updateSeq (s := { s with heap := g }) hS rfl ?_)
  have hS₂ := Heap.get?_update_self (Obj.mapSeq (fun _ => (#[] : Array Value))) hS rfl
  have oth2 : ∀ b o, b ≠ S → g.get? b = some o → (g.update S (Obj.mapSeq (fun _ => (#[] : Array Value)))).get? b = some o :=
    fun b o hb e => (Heap.get?_update_other _ _ (Ne.symm hb)).trans e
  refine wpAny_bind (wpAny_letGo ?_)
  obtain ⟨g2, eg2⟩ : ∃ g2, g2 = g.update S (Obj.mapSeq (fun _ => (#[] : Array Value))) := ⟨_, rfl⟩
  show wpAny _ _ _ _ _ { s with heap := g.update S (Obj.mapSeq (fun _ => (#[] : Array Value))) }
  rw [← eg2] at oth2 hS₂ ⊢
  have at2 : ∀ b o, b ≠ S → s.heap.get? b = some o → g2.get? b = some o := fun b o hb e => oth2 b o hb (up b o e)
  have hz2 : IsZip g2 z TI TO .none := at2 _ _ (Ne.symm Sz) hz
  have hT2 : ({ s with heap := g2 } : Shared).TypeIs (.ref z) "zip" := ⟨_, hz2, rfl⟩
  unfold Builtin.List.listExtendWith
  refine wpAny_bind (wpAny_typeOf (T := "zip") hT2 ?_)
  have b1 : Builtin.List.listSameRef (.ref S) (.ref z) = false := by simp [Builtin.List.listSameRef, Sz]
  have b2 : (Value.type "zip" == Value.type "list") = false := by decide
  have b3 : (Value.type "zip" == Value.type "tuple") = false := by decide
  simp only [b1, b2, b3, Bool.or_false, Bool.false_eq_true, if_false]
  refine wpAny_bind (wpAny_pyIter_zip hz2 ?_)
  refine wpAny_bind (wpAny_holding ?_)
  unfold Builtin.List.listLengthHint
  refine wpAny_bind (wpAny_specialOf hT2 zip_no_len ?_)
  show wpAny _ _ (specialOf (Value.ref z) (Str.ofString "__length_hint__") >>= _) _ _ _
  refine wpAny_bind (wpAny_specialOf hT2 zip_no_hint ?_)
  refine wpAny_pure ?_
  show wpAny _ _ (rule "list.extend.makes-room" >>= fun _ => Builtin.List.listTouch (.ref S) >>= fun _ =>
    again (.builtin "list.extend.loop" ⟨[.ref S, .ref z, .none], []⟩)) _ _ _
  refine wpAny_bind (wpAny_rule ?_)
  refine wpAny_bind ?_
  show wpAny _ _ (updateSeq S (·.push .none) >>= fun _ => updateSeq S (·.pop)) _ _ _
  refine wpAny_bind (wpAny_updateSeq (s := { s with heap := g2 }) hS₂ rfl ?_)
  have hS₃ := Heap.get?_update_self (Obj.mapSeq (·.push Value.none)) hS₂ rfl
  refine wpAny_updateSeq (hz := by seq_fits) (s := { s with heap := g2.update S (Obj.mapSeq (·.push Value.none)) }) hS₃ rfl ?_
  have hS₄ := Heap.get?_update_self (Obj.mapSeq (·.pop)) hS₃ rfl
  have oth4 : ∀ b o, b ≠ S → s.heap.get? b = some o → ((g2.update S (Obj.mapSeq (·.push Value.none))).update S (Obj.mapSeq (·.pop))).get? b = some o :=
    fun b o hb e => (Heap.get?_update_other _ _ (Ne.symm hb)).trans ((Heap.get?_update_other _ _ (Ne.symm hb)).trans (at2 b o hb e))
  refine wpAny_pure ⟨plainId_quiet PySem.F.plain_extend_loop _, ?_⟩
  refine zip_loop (A := A.in1) (h₀ := h₀) (s := s) (xs := xs) (ys := ys) hh D ⟨Sz, STI, STO, Si1, Si2, Sl1, Sl2⟩ hlen hn .none (fun b o e => ?_) (fun h' tk acc m k' e hl hj => ?_) xs.length 0 _ s.toks [] rfl (Nat.zero_le _) (fun b o e => oth4 b o (fun q => by rw [q, S0] at e; cases e) (hold b o e)) (fun j T e => by simp at e) ?_
  · obtain ⟨a1, a2, a3, a4⟩ := old b o e
    exact ⟨a1, a2, a3, a4, fun q => by rw [q, S0] at e; cases e⟩
  · exact ⟨rfl, hQ S h' tk acc m k' S0 e hl hj⟩
  · exact {
      zip := .inl ⟨rfl, oth4 _ _ (Ne.symm Sz) hz⟩
      pTI := oth4 _ _ (Ne.symm STI) hTI
      pTO := by obtain ⟨a, b, e⟩ := hTO; exact ⟨a, b, oth4 _ _ (Ne.symm STO) e⟩
      h1 := h1.at fun o e => oth4 _ o (Ne.symm Si1) e
      h2 := h2.at fun o e => oth4 _ o (Ne.symm Si2) e
      hl1 := hl1.at fun o e => oth4 _ o (Ne.symm Sl1) e
      hl2 := hl2.at fun o e => oth4 _ o (Ne.symm Sl2) e
      hS := ⟨_, hS₄⟩
      len := rfl
      each := fun j hj => absurd hj (Nat.not_lt_zero _) }
end

section
variable {c : Cx} {n : Nat} {sc : List (Str × NameKind)}

/-- list(zip(a, b)) of two lists of one length -/
theorem e_listzip {fl fz a b : Expr} {zp pos : Pos} {T : St → (List V → St → Prop) → Prop} (hfl : Callee c sc fl (.type "list")) (hfz : Callee c sc fz (.type "zip")) (ha : SemA c n sc zp [a, b] T)
    (he : ∀ env, eval (.Call fl [.Call fz [a, b] [] zp] [] pos) env = (do callWith pos (← eval fl env) [] (backTo pos (starEach [.Call fz [a, b] [] zp] env)) (backToKw pos (keywordEach [] env))))
    (hst : ∀ env, starEach [.Call fz [a, b] [] zp] env = [(false, eval (.Call fz [a, b] [] zp) env)])
    (hez : ∀ env, eval (.Call fz [a, b] [] zp) env = (do callWith zp (← eval fz env) [] (backTo zp (starEach [a, b] env)) (backToKw zp (keywordEach [] env))))
    (hplain : ∀ env, (backTo zp (starEach [a, b] env)).any (·.1) = false) :
    SemE c n sc (.Call fl [.Call fz [a, b] [] zp] [] pos) (fun st P => T st fun vs st1 => match vs with | [.lst l, .lst m] => l.length = m.length ∧ P (.lst ((l.zip m).map pairV)) st1 | _ => False) := by
  intro A X F s st P Q rm ok g ht hq
  refine Call_ (hfl.1 A X F s st _ _ ok g ?_) (he _)
  refine callWith_of (P := fun h => ∃ F, Stat c F h) (by rw [hst]; rfl) (fun h ⟨F, S⟩ => hfl.2 F h S) (evalArgs_any (by rw [hst]; rfl) ?_)
  rw [hst]
  refine spliced_back ?_
  refine Call_ (hfz.1 A X F s st _ _ ok g ?_) (hez _)
  refine callWith_of (P := fun h => ∃ F, Stat c F h) (by rw [hplain]; rfl) (fun h ⟨F, S⟩ => hfz.2 F h S) (evalArgs_any (hplain _) ?_)
  refine ha A X F s st _ _ rm ok g ht fun F1 h1 tk1 xs as st1 g1 L1 r1 p1 => ?_
  split at p1
  · rename_i l m
    obtain ⟨hlen, p1⟩ := p1
    obtain ⟨x, r, rfl, rx, y, r', rfl, ry, e0⟩ := r1
    cases e0
    obtain ⟨a1, xs, rfl, f1, q1, rr1, z1⟩ := rx
    obtain ⟨a2, ys, rfl, f2, q2, rr2, z2⟩ := ry
    obtain ⟨o1, e1⟩ := g1.froz a1 f1
    obtain ⟨o2, e2⟩ := g1.froz a2 f2
    have l1 : a1 < h1.objs.size := Heap.lt_size e1
    have l2 : a2 < h1.objs.size := Heap.lt_size e2
    refine ⟨⟨F1, g1.stat⟩, call_zip_2 (s := { s with heap := h1, toks := tk1 }) q1.isList q2.isList fun h' hz hTI hTO hi1 hi2 hsz hk => ?_⟩
    dsimp only at hz hTI hTO hi1 hi2 hsz hk
    obtain ⟨N, hN⟩ : ∃ N : Nat, N = h1.objs.size := ⟨_, rfl⟩
    have oldlt : ∀ b o, h1.get? b = some o → @LT.lt Nat instLTNat b N := fun b o e => by rw [hN]; exact Heap.lt_size e
    show wpAny _ A _ _ _ _
    dsimp only
    rw [← hN] at hz hTI hTO hi1 hi2 hsz l1 l2 ⊢
    have key : ∀ x y : Nat, x ≠ y → @Ne Addr x y := fun _ _ h => h
    have l1' : @LT.lt Nat instLTNat a1 N := l1
    have l2' : @LT.lt Nat instLTNat a2 N := l2
    have D : ZipApart (N + 4) (N + 2) (N + 3) N (N + 1) a1 a2 := 
      ⟨key _ _ (by lia), key _ _ (by lia), key _ _ (by lia), key _ _ (by lia), key _ _ (by lia), key _ _ (by lia), key _ _ (by lia), key _ _ (by lia), key _ _ (by lia), key _ _ (by lia), key _ _ (by lia), key _ _ (by lia), key _ _ (by lia), key _ _ (by lia), key _ _ (by lia), key _ _ (by lia), key _ _ (by lia), key _ _ (by lia)⟩
    refine spliced_nil ⟨⟨F1, g1.stat.later (Later.keepAll hk)⟩, ?_⟩
    refine call_list_zip (s := { s with heap := h', toks := tk1 }) (h₀ := h1) (xs := xs) (ys := ys) rm.h D hk (fun b o e => ?_) hz hTI ⟨_, _, hTO⟩ hi1 hi2 (q1.isList.at fun o e => hk _ o e) (q2.isList.at fun o e => hk _ o e) (by rw [← rr1.length, ← rr2.length]; exact hlen) (by rw [← rr1.length]; exact z1) fun S h2 tk2 acc mm up hS eS hl each => ?_
    · have := oldlt b o e
      exact ⟨key _ _ (by lia), key _ _ (by lia), key _ _ (by lia), key _ _ (by lia)⟩
    · -- the tuples and the list are frozen
      obtain ⟨g2, L2⟩ := g1.grow ok up (fun b => b = S ∨ ∃ j : Nat, j < xs.length ∧ acc[j]? = some (.ref b)) (fun b hb => by
        rcases hb with rfl | ⟨j, hj, e⟩
        · exact ⟨hS, _, eS⟩
        · obtain ⟨T, x, y, e1, e2, e3, e4, e5⟩ := each j hj
          rw [e] at e1; cases e1
          exact ⟨e5, _, e4⟩)
      have rep : RepL c.ad (fun b => F1 b ∨ (b = S ∨ ∃ j : Nat, j < xs.length ∧ acc[j]? = some (.ref b))) h2 ((l.zip m).map pairV) acc := by
        refine RepL.of_get (by rw [List.length_map, List.length_zip, hl, ← rr1.length, hlen]; lia) fun i v x e1 e2 => ?_
        rw [List.getElem?_map, Option.map_eq_some_iff] at e1
        obtain ⟨p, hp, rfl⟩ := e1
        obtain ⟨hp1, hp2⟩ := List.getElem?_zip_eq_some.mp hp
        have hj : i < xs.length := by rw [← rr1.length]; exact (List.getElem?_eq_some_iff.mp hp1).1
        obtain ⟨T, u, v, a1, a2, a3, a4, a5⟩ := each i hj
        rw [a1] at e2; cases e2
        obtain ⟨u', hu, ru⟩ := rr1.get hp1
        obtain ⟨v', hv, rv⟩ := rr2.get hp2
        rw [a2] at hu; cases hu
        rw [a3] at hv; cases hv
        exact rep_tup (xs := [u, v]) (.inr (.inr ⟨i, hj, a1⟩)) ⟨0, a4⟩ ⟨u, [v], rfl, ru.later L2, v, [], rfl, rv.later L2, rfl⟩ (by show 2 ≤ 16777216; lia)
      exact hq _ h2 tk2 (.ref S) _ st1 g2 (L1.trans L2) (rep_lst (.inr (.inl rfl)) ⟨mm, eS⟩ rep (by rw [List.length_map, List.length_zip]; have : l.length ≤ sizeLine := z1; lia)) p1
  · exact p1.elim
end
end Mine

namespace Mine

theorem block_fn {env : Env} (hf : env.scope.kind = .function) : env.blockKind = .function := by unfold Env.blockKind; rw [hf]; rfl
theorem swap_true {elt : Expr} {gens : List Comprehension} {scope : Scope} {pos py : Pos} {y : Str} {line : Nat} {env : Env} (hk : env.kindOf y = some .local) (hf : env.scope.kind = .function) (hl : (py.line == pos.line) = true)
    (hn : (scope.names.any fun x => x.1 == y && (x.2 == .local || x.2 == .cell)) = false) : swapsWith (.ListComp elt gens scope pos) (some (.Name y py)) line env = pure true := by
  have hb := block_fn hf
  show (pure (env.blockKind == .function && env.kindOf y == some .local && py.line == pos.line && !(scope.names.any fun x => x.1 == y && (x.2 == .local || x.2 == .cell))) : Sem Bool) = _
  rw [hb, hk, hl, hn]; rfl
theorem swap_cell {elt : Expr} {gens : List Comprehension} {scope : Scope} {pos py : Pos} {y : Str} {line : Nat} {env : Env} (hk : env.kindOf y = some .cell) : swapsWith (.ListComp elt gens scope pos) (some (.Name y py)) line env = pure false := by
  show (pure (env.blockKind == .function && env.kindOf y == some .local && py.line == pos.line && !(scope.names.any fun x => x.1 == y && (x.2 == .local || x.2 == .cell))) : Sem Bool) = _
  rw [hk]
  have : (some NameKind.cell == some NameKind.local) = false := by decide
  rw [this]; simp

noncomputable def noStar (e : Expr) : Bool := match e with | .Starred .. => true | _ => false
theorem no_stars {e1 e2 : Expr} (h1 : noStar e1 = false) (h2 : noStar e2 = false) : ([e1, e2].any fun | .Starred .. => true | _ => false) = false := by
  show (noStar e1 || (noStar e2 || false)) = false
  rw [h1, h2]; rfl
theorem swapped_some {env : Env} {x y : Str} {px py tp vp : Pos} {e1 e2 : Expr} {k k' : Nat} (hf : env.scope.kind = .function) (hx : env.kindOf x = some .local) (hy : env.kindOf y = some .local) (hne : (x == y) = false) (hl2 : (py.line == px.line) = true)
    (h1 : noStar e1 = false) (h2 : noStar e2 = false)
    (h3 : [e1, e2].all (foldedForSure 8) = false) (h4 : [e1, e2].all (constantsAlone 8) = false) :
    swappedStores [.Tuple [.Name x px, .Name y py] k tp] (.Tuple [e1, e2] k' vp) env = pure (some [x, y]) := by
  have hb := block_fn hf
  have hs := no_stars h1 h2
  have hlx : (px.line == px.line) = true := by simp
  have hfm : ([Expr.Name x px, Expr.Name y py].filterMap fun
    | .Name id pos => if env.kindOf id == some .local && pos.line == px.line then some id else none
    | _ => none) = [x, y] := by
    simp [List.filterMap, hx, hy, hlx, hl2]
  have hd : [x, y].eraseDups = [x, y] := by
    have hxy : (y == x) = false := by
      rw [beq_eq_false_iff_ne] at hne ⊢; exact fun e => hne e.symm
    simp [List.eraseDups, List.eraseDupsBy, List.eraseDupsBy.loop, hne, hxy]
  unfold swappedStores
  rw [hb]
  dsimp only
  generalize hB : List.any [e1, e2] _ = B
  obtain rfl : B = false := hB.symm.trans hs
  rw [if_neg (by simp), if_neg (by simp)]
  generalize hL : List.filterMap _ [Expr.Name x px, Expr.Name y py] = L
  obtain rfl : L = [x, y] := hL.symm.trans hfm
  rw [hd, if_neg (by simp), if_neg (by rw [h3]; simp), if_neg (by rw [h4]; simp)]
theorem swapped_cell {env : Env} {x y : Str} {px py tp vp : Pos} {e1 e2 : Expr} {k k' : Nat} (hf : env.scope.kind = .function) (hx : env.kindOf x = some .cell)
    (h1 : noStar e1 = false) (h2 : noStar e2 = false) :
    swappedStores [.Tuple [.Name x px, .Name y py] k tp] (.Tuple [e1, e2] k' vp) env = pure none := by
  have hb := block_fn hf
  have hs := no_stars h1 h2
  have hfm : ([Expr.Name x px, Expr.Name y py].filterMap fun
    | .Name id pos => if env.kindOf id == some .local && pos.line == px.line then some id else none
    | _ => none).length ≠ 2 := by
    have hc : (some NameKind.cell == some NameKind.local) = false := by decide
    simp only [List.filterMap, hx, hc, Bool.false_and, Bool.false_eq_true, if_false]
    by_cases hh : (env.kindOf y == some .local && py.line == px.line) = true
    · rw [if_pos hh]; simp
    · rw [if_neg hh]; simp
  unfold swappedStores
  rw [hb]
  dsimp only
  generalize hB : List.any [e1, e2] _ = B
  obtain rfl : B = false := hB.symm.trans hs
  rw [if_neg (by simp), if_neg (by simp)]
  generalize hL : List.filterMap _ [Expr.Name x px, Expr.Name y py] = L
  have hne : L.length ≠ 2 := by rw [← hL]; exact hfm
  rw [if_pos (by simp [hne])]
end Mine

namespace Mine

abbrev sInput : Str := Str.ofString "input"
abbrev sAnd : Str := Str.ofString "and"

/-- the truths of the gates at a row, in the order of the gates -/
noncomputable def evalStep (row : Nat) (acc : List Bool) (kp : Str × List Int) : List Bool :=
  acc ++ [if kp.1 = sInput then row.testBit (acc.length - 2) else kp.2.all fun p => (acc.getD p.natAbs true == decide (0 < p))]
noncomputable def tv (g : G) (row : Nat) : List Bool := (g.kinds.zip g.parts).foldl (evalStep row) []
noncomputable def lit (g : G) (row : Nat) (x : Int) : Bool := (tv g row).getD x.natAbs true == decide (0 < x)

/-- a gate's sign and number -/
noncomputable def Gate (g : G) (x : Int) : Prop := x ≠ 0 ∧ x.natAbs < g.kinds.length

structure Inv (m : Nat) (g : G) : Prop where
  len : g.parts.length = g.kinds.length
  big : m + 2 ≤ g.kinds.length
  p0 : g.parts[0]? = some [] ∧ g.kinds[0]? = some (Str.ofString "")
  p1 : g.parts[1]? = some [] ∧ g.kinds[1]? = some (Str.ofString "true")
  inp : ∀ k, 2 ≤ k → k < m + 2 → g.kinds[k]? = some sInput ∧ g.parts[k]? = some []
  gate : ∀ k, m + 2 ≤ k → k < g.kinds.length → g.kinds[k]? = some sAnd ∧ ∃ ps, g.parts[k]? = some ps ∧ ∀ p ∈ ps, p ≠ 0 ∧ p.natAbs < k
  known : ∀ p n, (p, n) ∈ g.known → ∃ k : Nat, n = (k : Int) ∧ 2 ≤ k ∧ k < g.kinds.length ∧ g.kinds[k]? = some sAnd ∧ g.parts[k]? = some p
  knlen : g.known.length ≤ g.kinds.length

/-- more gates, all else as it stood -/
structure Ext (g g' : G) (n : Nat) : Prop where
  kinds : ∃ l, g'.kinds = g.kinds ++ l ∧ l.length ≤ n
  parts : ∃ l, g'.parts = g.parts ++ l
  at_ : g'.at_ = g.at_
  cells : g'.cells = g.cells
  inputs : g'.inputs = g.inputs
  numbers : g'.numbers = g.numbers
  ready : g'.ready = g.ready
  done : g'.done = g.done

theorem Ext.refl (g : G) : Ext g g 0 := ⟨⟨[], by simp, by simp⟩, ⟨[], by simp⟩, rfl, rfl, rfl, rfl, rfl, rfl⟩
theorem Ext.trans {a b d : G} {n m : Nat} (x : Ext a b n) (y : Ext b d m) : Ext a d (n + m) := by
  obtain ⟨l, e, z⟩ := x.kinds
  obtain ⟨l', e', z'⟩ := y.kinds
  obtain ⟨q, f⟩ := x.parts
  obtain ⟨q', f'⟩ := y.parts
  exact ⟨⟨l ++ l', by rw [e', e, List.append_assoc], by simp; lia⟩, ⟨q ++ q', by rw [f', f, List.append_assoc]⟩, y.at_.trans x.at_, y.cells.trans x.cells, y.inputs.trans x.inputs, y.numbers.trans x.numbers, y.ready.trans x.ready, y.done.trans x.done⟩
theorem Ext.le {a b : G} {n m : Nat} (x : Ext a b n) (h : n ≤ m) : Ext a b m := { x with kinds := let ⟨l, e, z⟩ := x.kinds; ⟨l, e, Nat.le_trans z h⟩ }
theorem Ext.len {a b : G} {n : Nat} (x : Ext a b n) : a.kinds.length ≤ b.kinds.length ∧ b.kinds.length ≤ a.kinds.length + n := by
  obtain ⟨l, e, z⟩ := x.kinds
  rw [e, List.length_append]; lia
theorem Gate.ext {a b : G} {n : Nat} {x : Int} (h : Gate a x) (e : Ext a b n) : Gate b x := ⟨h.1, Nat.lt_of_lt_of_le h.2 e.len.1⟩
theorem Gate.neg {a : G} {x : Int} (h : Gate a x) : Gate a (-x) := ⟨fun e => h.1 (by lia), by rw [Int.natAbs_neg]; exact h.2⟩

theorem fold_len (row : Nat) : ∀ (l : List (Str × List Int)) (acc : List Bool), (l.foldl (evalStep row) acc).length = acc.length + l.length
  | [], _ => rfl
  | kp :: l, acc => by rw [List.foldl_cons, fold_len row l]; simp [evalStep]; lia
theorem fold_pre (row : Nat) : ∀ (l : List (Str × List Int)) (acc : List Bool), ∃ r, l.foldl (evalStep row) acc = acc ++ r
  | [], acc => ⟨[], by simp⟩
  | kp :: l, acc => by
    obtain ⟨r, e⟩ := fold_pre row l (evalStep row acc kp)
    rw [List.foldl_cons, e]
    exact ⟨[if kp.1 = sInput then row.testBit (acc.length - 2) else kp.2.all fun p => (acc.getD p.natAbs true == decide (0 < p))] ++ r, by unfold evalStep; rw [List.append_assoc]⟩

theorem tv_len {g : G} {m : Nat} (h : Inv m g) (row : Nat) : (tv g row).length = g.kinds.length := by
  unfold tv
  rw [fold_len, List.length_zip, h.len]; simp

theorem tv_ext {m : Nat} {g g' : G} {n : Nat} (h : Inv m g) (e : Ext g g' n) (row : Nat) : ∃ r, tv g' row = tv g row ++ r := by
  obtain ⟨l, e1, _⟩ := e.kinds
  obtain ⟨q, e2⟩ := e.parts
  unfold tv
  rw [e1, e2, List.zip_append (by rw [h.len]), List.foldl_append]
  exact fold_pre row _ _

theorem lit_ext {m : Nat} {g g' : G} {n : Nat} {x : Int} (h : Inv m g) (e : Ext g g' n) (hx : Gate g x) (row : Nat) : lit g' row x = lit g row x := by
  obtain ⟨r, er⟩ := tv_ext h e row
  unfold lit
  rw [er]
  have : x.natAbs < (tv g row).length := by rw [tv_len h]; exact hx.2
  simp [List.getD_eq_getElem?_getD, List.getElem?_append_left this]

theorem lit_neg {m : Nat} {g : G} {x : Int} (h : Inv m g) (hx : Gate g x) (row : Nat) : lit g row (-x) = !lit g row x := by
  unfold lit
  rw [Int.natAbs_neg]
  have : decide (0 < -x) = !decide (0 < x) := by
    have := hx.1
    by_cases h0 : 0 < x
    · have : ¬ 0 < -x := by lia
      rw [decide_eq_true h0, decide_eq_false this]; rfl
    · have : 0 < -x := by lia
      rw [decide_eq_false h0, decide_eq_true this]; rfl
  rw [this]
  cases (tv g row).getD x.natAbs true <;> cases decide (0 < x) <;> rfl

/-- the truth of gate k in terms of its kind and parts -/
theorem tv_at {m : Nat} {g : G} (h : Inv m g) (row k : Nat) {kd : Str} {ps : List Int} (hk : g.kinds[k]? = some kd) (hp : g.parts[k]? = some ps) (hps : ∀ p ∈ ps, p.natAbs < k) :
    (tv g row)[k]? = some (if kd = sInput then row.testBit (k - 2) else ps.all fun p => lit g row p) := by
  have lk : k < g.kinds.length := (List.getElem?_eq_some_iff.mp hk).1
  obtain ⟨rest, hz⟩ : ∃ rest, g.kinds.zip g.parts = (g.kinds.zip g.parts).take k ++ (kd, ps) :: rest := by
    have : (g.kinds.zip g.parts)[k]? = some (kd, ps) := List.getElem?_zip_eq_some.mpr ⟨hk, hp⟩
    obtain ⟨hl, he⟩ := List.getElem?_eq_some_iff.mp this
    exact ⟨(g.kinds.zip g.parts).drop (k + 1), by rw [← he, ← List.drop_eq_getElem_cons hl, List.take_append_drop]⟩
  have htk : ((g.kinds.zip g.parts).take k).length = k := by rw [List.length_take, List.length_zip, h.len]; lia
  have hpre : (((g.kinds.zip g.parts).take k).foldl (evalStep row) []).length = k := by rw [fold_len, htk]; simp
  obtain ⟨r, hr⟩ := fold_pre row rest (evalStep row (((g.kinds.zip g.parts).take k).foldl (evalStep row) []) (kd, ps))
  have htv : tv g row = evalStep row (((g.kinds.zip g.parts).take k).foldl (evalStep row) []) (kd, ps) ++ r := by
    have e1 : tv g row = ((g.kinds.zip g.parts).take k ++ (kd, ps) :: rest).foldl (evalStep row) [] := congrArg (fun l => List.foldl (evalStep row) [] l) hz
    rw [e1, List.foldl_append, List.foldl_cons]
    exact hr
  obtain ⟨acc, hacc⟩ : ∃ acc, acc = ((g.kinds.zip g.parts).take k).foldl (evalStep row) [] := ⟨_, rfl⟩
  rw [← hacc] at htv hpre
  have hlit : ∀ p ∈ ps, (acc.getD p.natAbs true == decide (0 < p)) = lit g row p := fun p hp' => by
    unfold lit
    rw [htv]
    have hlt : p.natAbs < acc.length := by rw [hpre]; exact hps p hp'
    unfold evalStep
    simp [List.getD_eq_getElem?_getD, List.append_assoc, List.getElem?_append_left hlt]
  rw [htv]
  unfold evalStep
  rw [List.append_assoc, List.getElem?_append_right (by lia), hpre]
  simp only [Nat.sub_self, List.singleton_append, List.getElem?_cons_zero, Option.some.injEq]
  by_cases hi : kd = sInput
  · rw [if_pos hi, if_pos hi]
  · rw [if_neg hi, if_neg hi]
    have := @List.all_congr Int
    rw [Bool.eq_iff_iff, List.all_eq_true, List.all_eq_true]
    exact ⟨fun q p hp' => by rw [← hlit p hp']; exact q p hp', fun q p hp' => by rw [hlit p hp']; exact q p hp'⟩

theorem lit_one {m : Nat} {g : G} (h : Inv m g) (row : Nat) : lit g row 1 = true := by
  have := tv_at h row 1 h.p1.2 h.p1.1 (by simp)
  have hne : ¬ Str.ofString "true" = sInput := by decide
  rw [if_neg hne] at this
  unfold lit
  simp [List.getD_eq_getElem?_getD, this]
theorem gate_one {m : Nat} {g : G} (h : Inv m g) : Gate g 1 := ⟨by decide, by have := h.big; show 1 < _; lia⟩
theorem lit_mone {m : Nat} {g : G} (h : Inv m g) (row : Nat) : lit g row (-1) = false := by
  rw [lit_neg h (gate_one h), lit_one h]; rfl
theorem gate_mone {m : Nat} {g : G} (h : Inv m g) : Gate g (-1) := (gate_one h).neg

/-- a new «and» gate -/
theorem lit_and {m : Nat} {g : G} (h : Inv m g) {k : Nat} {ps : List Int} (hk : g.kinds[k]? = some sAnd) (hp : g.parts[k]? = some ps) (h2 : 2 ≤ k) (hps : ∀ p ∈ ps, p.natAbs < k) (row : Nat) : lit g row (k : Int) = ps.all fun p => lit g row p := by
  have := tv_at h row k hk hp hps
  have hne : ¬ sAnd = sInput := by decide
  rw [if_neg hne] at this
  have hk0 : 0 < (k : Int) := by lia
  show ((tv g row).getD (k : Int).natAbs true == decide (0 < (k : Int))) = _
  rw [Int.natAbs_natCast, List.getD_eq_getElem?_getD, this, Option.getD_some, decide_eq_true hk0]
  generalize (ps.all fun p => lit g row p) = b
  cases b <;> rfl
end Mine

namespace Mine

theorem ints_inj : ∀ {p q : List Int}, p.map V.int = q.map V.int → p = q
  | [], [], _ => rfl
  | [], _ :: _, e => by simp at e
  | _ :: _, [], e => by simp at e
  | a :: p, b :: q, e => by
    simp only [List.map_cons, List.cons.injEq, V.int.injEq] at e
    rw [e.1, ints_inj e.2]

section
variable {st : St} {x y : Str} {v w : V} {i j : Int} {l m : List V} {g : G} {k : V → Prop} {P : V → St → Prop} {o : Own} {f : Str → Option V}
theorem v_set_loc : (st.set x v).loc y = if y = x then some v else st.loc y := rfl
theorem v_set_own : (st.set x v).own = if st.own.isAt x then .none else st.own := rfl
theorem v_set_g : (st.set x v).g = st.g := rfl
theorem v_so_loc : (st.setOwn x o).loc y = if y = x then none else st.loc y := rfl
theorem v_so_own : (st.setOwn x o).own = o := rfl
theorem v_so_g : (st.setOwn x o).g = st.g := rfl
theorem v_at_none : Own.isAt .none y = false := rfl
theorem v_at_lst {a : Addr} {wr : Bool} : Own.isAt (.lst x a l wr) y = (x == y) := rfl
theorem v_at_dct {a : Addr} {ks : List Int} : Own.isAt (.dct x a ks) y = (x == y) := rfl
theorem v_init_loc {ps : List Str} {as : List V} : (initSt ps as g).loc y = initL (ps.zip as) (fun _ => none) y := rfl
theorem v_init_own {ps : List Str} {as : List V} : (initSt ps as g).own = .none := rfl
theorem v_init_g {ps : List Str} {as : List V} : (initSt ps as g).g = g := rfl
theorem v_initL_cons {n : Str} {r : List (Str × V)} {m : Str → Option V} : initL ((n, v) :: r) m = initL r (fun y => if y = n then some v else m y) := rfl
theorem v_initL_nil {m : Str → Option V} : initL [] m = m := rfl
theorem v_inner_loc {names : List (Str × NameKind)} : (inner names st).loc y = if names.lookup y = some .free then st.loc y else none := rfl
theorem v_inner_g {names : List (Str × NameKind)} : (inner names st).g = st.g := rfl
noncomputable def innerO (names : List (Str × NameKind)) : Own → Own
  | .lst x a l _ => if names.lookup x = some .free then .lst x a l false else .none
  | _ => .none
theorem v_inner_own {names : List (Str × NameKind)} : (inner names st).own = innerO names st.own := by cases h : st.own <;> simp [inner, innerO, h]
theorem v_innerO_none {names : List (Str × NameKind)} : innerO names .none = .none := rfl
theorem v_innerO_lst {names : List (Str × NameKind)} {a : Addr} {wr : Bool} : innerO names (.lst x a l wr) = if names.lookup x = some .free then .lst x a l false else .none := rfl
theorem v_innerO_dct {names : List (Str × NameKind)} {a : Addr} {ks : List Int} : innerO names (.dct x a ks) = .none := rfl

noncomputable def nameO (o : Own) (x : Str) (st : St) (P : V → St → Prop) : Prop := match o with
  | .lst y _ l wr => if y = x ∧ wr = true then P (.lst l) { loc := fun z => if z = x then some (.lst l) else st.loc z, own := .none, g := st.g } else False
  | _ => False
noncomputable def nameK (o : Option V) (x : Str) (st : St) (P : V → St → Prop) : Prop := match o with
  | some v => P v st
  | none => nameO st.own x st P
theorem v_name : T_name2 x st P = nameK (st.loc x) x st P := rfl
theorem v_nameK : nameK (some v) x st P = P v st := rfl
theorem v_nameN : nameK none x st P = nameO st.own x st P := rfl
theorem v_nameO {a : Addr} {wr : Bool} : nameO (.lst y a l wr) x st P = (if y = x ∧ wr = true then P (.lst l) { loc := fun z => if z = x then some (.lst l) else st.loc z, own := .none, g := st.g } else False) := rfl
noncomputable def subO (o : Own) (x : Str) (Tr : St → (V → St → Prop) → Prop) (st : St) (P : V → St → Prop) : Prop := match o with
  | .lst y _ l _ => if y = x then (Tr st fun b st2 => st2.own = st.own ∧ onIntE b fun j => ∃ v, ix l j = some v ∧ P v st2) else False
  | _ => False
noncomputable def subK (o : Option V) (x : Str) (Tr : St → (V → St → Prop) → Prop) (st : St) (P : V → St → Prop) : Prop := match o with
  | some a => Tr st fun b st2 => onSub a b st2 fun v => P v st2
  | none => subO st.own x Tr st P
theorem v_subn {Tr : St → (V → St → Prop) → Prop} : T_subn x Tr st P = subK (st.loc x) x Tr st P := rfl
theorem v_subK {Tr : St → (V → St → Prop) → Prop} : subK (some v) x Tr st P = Tr st fun b st2 => onSub v b st2 fun v => P v st2 := rfl
theorem v_subN {Tr : St → (V → St → Prop) → Prop} : subK none x Tr st P = subO st.own x Tr st P := rfl
theorem v_subO {Tr : St → (V → St → Prop) → Prop} {a : Addr} {wr : Bool} : subO (.lst y a l wr) x Tr st P = (if y = x then (Tr st fun b st2 => st2.own = st.own ∧ onIntE b fun j => ∃ v, ix l j = some v ∧ P v st2) else False) := rfl
noncomputable def appO (o : Own) (x : Str) (Te : St → (V → St → Prop) → Prop) (st : St) (P : V → St → Prop) : Prop := match o with
  | .lst y a l true => if y = x then (Te st fun v st1 => st1.own = st.own ∧ l.length + 1 ≤ sizeLine ∧ P .none { st1 with own := .lst y a (l ++ [v]) true }) else False
  | _ => False
theorem v_app {Te : St → (V → St → Prop) → Prop} : T_app x Te st P = appO st.own x Te st P := rfl
theorem v_appO {Te : St → (V → St → Prop) → Prop} {a : Addr} : appO (.lst y a l true) x Te st P = (if y = x then (Te st fun v st1 => st1.own = st.own ∧ l.length + 1 ≤ sizeLine ∧ P .none { st1 with own := .lst y a (l ++ [v]) true }) else False) := rfl
theorem v_T2 {Tl Tr : St → (V → St → Prop) → Prop} {f : V → V → St → (V → Prop) → Prop} : T2 Tl Tr f st P = Tl st fun a st1 => Tr st1 fun b st2 => f a b st2 fun v => P v st2 := rfl
noncomputable def sortO (o : Own) (x : Str) (st : St) (P : V → St → Prop) : Prop := match o with
  | .dct y _ ks => if y = x then (ks.length < 64 ∧ ∀ ns' : List Int, ns'.Perm ks → ns'.Pairwise (· ≤ ·) → P (.lst (ns'.map .int)) st) else False
  | _ => False
theorem v_sorted : T_sorted x st P = sortO st.own x st P := rfl
theorem v_sortO {a : Addr} {ks : List Int} : sortO (.dct y a ks) x st P = (if y = x then (ks.length < 64 ∧ ∀ ns' : List Int, ns'.Perm ks → ns'.Pairwise (· ≤ ·) → P (.lst (ns'.map .int)) st) else False) := rfl
theorem v_in {Tl : St → (V → St → Prop) → Prop} {B : Bool → St → Prop} : T_in x Tl st B = Tl st fun a st1 => onInt a fun j => inOwn x j st1 B := rfl
noncomputable def inO (o : Own) (x : Str) (j : Int) (st1 : St) (P : Bool → St → Prop) : Prop := match o with
  | .dct y _ ks => if y = x then P (decide (j ∈ ks)) st1 else False
  | _ => False
theorem v_inOwn {B : Bool → St → Prop} : inOwn x j st B = inO st.own x j st B := rfl
theorem v_inO {a : Addr} {ks : List Int} {B : Bool → St → Prop} : inO (.dct y a ks) x j st B = (if y = x then B (decide (j ∈ ks)) st else False) := rfl
noncomputable def setO (o : Own) (x : Str) (Ti : St → (V → St → Prop) → Prop) (st : St) (P : Fl → St → Prop) : Prop := match o with
  | .dct y a ks => if y = x then (Ti st fun iv st1 => onInt iv fun j => st1.own = st.own ∧ ks.length + 1 ≤ sizeLine ∧ P .next { st1 with own := .dct y a (addKey ks j) }) else False
  | _ => False
theorem v_setdct {Ti : St → (V → St → Prop) → Prop} {B : Fl → St → Prop} : T_setdct x Ti st B = setO st.own x Ti st B := rfl
theorem v_setO {Ti : St → (V → St → Prop) → Prop} {B : Fl → St → Prop} {a : Addr} {ks : List Int} : setO (.dct y a ks) x Ti st B = (if y = x then (Ti st fun iv st1 => onInt iv fun j => st1.own = st.own ∧ ks.length + 1 ≤ sizeLine ∧ B .next { st1 with own := .dct y a (addKey ks j) }) else False) := rfl
theorem v_comp {names : List (Str × NameKind)} {as : It → St → (St → Prop) → Prop} {TI : St → (List It → St → Prop) → Prop} {Tt : St → (Bool → St → Prop) → Prop} {Te : St → (V → St → Prop) → Prop} : T_comp names as TI Tt Te st P = TI st fun l st1 => compT as Tt Te l [] (inner names st1) fun acc st2 => P (.lst acc) { st1 with g := st2.g } := rfl

theorem v_onInt {p : Int → Prop} : onInt (.int i) p = p i := rfl
theorem v_onBool {b : Bool} {p : Bool → Prop} : onBool (.bool b) p = p b := rfl
theorem v_onIntE {p : Int → Prop} : onIntE (.int i) p = p i := rfl
theorem v_add : bAdd2 (.int i) (.int j) st k = k (.int (i + j)) := rfl
theorem v_addl : bAdd2 (.lst l) (.lst m) st k = (l.length + m.length ≤ sizeLine ∧ k (.lst (l ++ m))) := rfl
theorem v_sub : bSub (.int i) (.int j) st k = k (.int (i - j)) := rfl
theorem v_mul : bMul2 (.int i) (.int j) st k = ((i.natAbs < 2 ^ 64 ∧ j.natAbs < 2 ^ 64) ∧ k (.int (i * j))) := rfl
theorem v_mull : bMul2 (.lst [v]) (.int j) st k = ((0 ≤ j ∧ j ≤ 1000) ∧ k (.lst (List.replicate j.toNat v))) := rfl
theorem v_mod : bMod (.int i) (.int j) st k = (j ≠ 0 ∧ k (.int (i.fmod j))) := rfl
theorem v_div : bDiv (.int i) (.int j) st k = ((j ≠ 0 ∧ i.natAbs < 2 ^ 30 ∧ j.natAbs < 2 ^ 30) ∧ k (.int (i.fdiv j))) := rfl
theorem v_shl : bShl (.int i) (.int j) st k = ((0 ≤ j ∧ j ≤ 1000 ∧ i.natAbs < 2 ^ 64) ∧ k (.int (i * 2 ^ j.toNat))) := rfl
theorem v_shr : bShr (.int i) (.int j) st k = (0 ≤ j ∧ k (.int (i.fdiv (2 ^ j.toNat)))) := rfl
theorem v_and : bAnd (.int i) (.int j) st k = k (.int (Builtin.bitAnd i j)) := rfl
theorem v_lt : cLt (.int i) (.int j) st k = k (.bool (decide (i < j))) := rfl
theorem v_le : cLe (.int i) (.int j) st k = k (.bool (decide (i ≤ j))) := rfl
theorem v_gt : cGt (.int i) (.int j) st k = k (.bool (decide (j < i))) := rfl
theorem v_eq : cEq (.int i) (.int j) st k = k (.bool (decide (i = j))) := rfl
theorem v_eqb {a b : Bool} : cEq (.bool a) (.bool b) st k = k (.bool (decide (a = b))) := rfl
theorem v_eqs {a b : Str} : cEq (.str a) (.str b) st k = k (.bool (decide (a = b))) := rfl
theorem v_ne : cNe (.int i) (.int j) st k = k (.bool (!decide (i = j))) := rfl
theorem v_neb {a b : Bool} : cNe (.bool a) (.bool b) st k = k (.bool (!decide (a = b))) := rfl
theorem v_nik {p : List Int} (h : l = p.map .int) : cNotIn (.tup l) (.obj .known) st k = k (.bool (!(st.g.known.lookup p).isSome)) := by
  subst h
  show (∃ ns : List Int, p.map V.int = ns.map V.int ∧ _) = _
  apply propext
  constructor
  · rintro ⟨ns, e, h⟩
    have : p = ns := ints_inj e
    rw [this]; exact h
  · exact fun h => ⟨p, rfl, h⟩
theorem v_sub_tup : onSub (.tup l) (.int j) st k = ∃ v, ix l j = some v ∧ k v := rfl
theorem v_sub_lst : onSub (.lst l) (.int j) st k = ∃ v, ix l j = some v ∧ k v := rfl
theorem v_sub_kinds : onSub (.obj .kinds) (.int j) st k = ∃ v, ix st.g.kinds j = some v ∧ k (.str v) := rfl
theorem v_sub_parts : onSub (.obj .parts) (.int j) st k = ∃ v, ix st.g.parts j = some v ∧ k (.tup (v.map .int)) := rfl
theorem v_sub_numbers : onSub (.obj .numbers) (.int j) st k = ∃ v, ix st.g.numbers j = some v ∧ k v := rfl
theorem v_sub_known {p : List Int} (h : l = p.map .int) : onSub (.obj .known) (.tup l) st k = ∃ n, st.g.known.lookup p = some n ∧ k (.int n) := by
  subst h
  show (∃ (q : List Int) (n : Int), p.map V.int = q.map V.int ∧ _) = _
  apply propext
  constructor
  · rintro ⟨ns, n, e, h⟩
    have : p = ns := ints_inj e
    rw [this]; exact ⟨n, h⟩
  · exact fun ⟨n, h⟩ => ⟨p, n, rfl, h⟩
theorem v_sub_cells : onSub (.obj .feed) (.str (Str.ofString "cells")) st k = k (.lst (st.g.cells.map .int)) := rfl
theorem v_sub_at : onSub (.obj .feed) (.str (Str.ofString "at")) st k = k (.int st.g.at_) := rfl
theorem v_sub_inputs : onSub (.obj .world) (.str (Str.ofString "inputs")) st k = (st.g.ready = true ∧ k (.lst (st.g.inputs.map .int))) := rfl
theorem v_sub_circuit : onSub (.obj .world) (.str (Str.ofString "circuit")) st k = k (.obj .circ) := rfl
theorem v_sub_binary : onSub (.obj .world) (.str (Str.ofString "binary")) st k = k (.obj .bin) := rfl
theorem v_sub_numb : onSub (.obj .world) (.str (Str.ofString "numbers")) st k = k (.obj .numbers) := rfl
theorem v_at_kinds : onAttr (.obj .circ) (Str.ofString "kinds") k = k (.obj .kinds) := rfl
theorem v_at_parts : onAttr (.obj .circ) (Str.ofString "parts_now") k = k (.obj .parts) := rfl
theorem v_at_known : onAttr (.obj .circ) (Str.ofString "known") k = k (.obj .known) := rfl
theorem v_at_circuit : onAttr (.obj .bin) (Str.ofString "circuit") k = k (.obj .circ) := rfl
theorem v_isob1 {p : Prop} : onOb .circ (.obj .circ) p = p := rfl
theorem v_isob2 {p : Prop} : onOb .bin (.obj .bin) p = p := rfl
theorem v_upto_l : onUpto (.lst l) (.int j) k = (0 ≤ j ∧ k (.lst (l.take j.toNat))) := rfl
theorem v_upto_t : onUpto (.tup l) (.int j) k = ((1 ≤ j ∧ j ≤ l.length) ∧ k (.tup (l.take j.toNat))) := rfl
theorem v_from_l : onFrom (.lst l) (.int j) k = (0 ≤ j ∧ k (.lst (l.drop j.toNat))) := rfl
theorem v_len_l {B : V → G → Prop} : S_len [.lst l] g B = B (.int l.length) g := rfl
theorem v_len_t {B : V → G → Prop} : S_len [.tup l] g B = B (.int l.length) g := rfl
theorem v_len_k {B : V → G → Prop} : S_len [.obj .kinds] g B = B (.int g.kinds.length) g := rfl
theorem v_len_n {B : V → G → Prop} : S_len [.obj .numbers] g B = B (.int g.numbers.length) g := rfl
theorem v_abs {B : V → G → Prop} : S_abs [.int i] g B = B (.int i.natAbs) g := rfl
theorem v_max {B : V → G → Prop} : S_max [.int i, .int j] g B = B (.int (max i j)) g := rfl
theorem v_int {B : V → G → Prop} : S_int [.int i] g B = B (.int i) g := rfl
theorem v_tuple_l {B : V → G → Prop} : S_tuple [.lst l] g B = B (.tup l) g := rfl
theorem v_tuple_t {B : V → G → Prop} : S_tuple [.tup l] g B = B (.tup l) g := rfl
theorem v_list {B : V → G → Prop} : S_list [.lst l] g B = B (.lst l) g := rfl
theorem v_range1 {B : V → G → Prop} : S_range [.int i] g B = (Builtin.Range.small 0 i 1 = true ∧ B (.rng 0 i 1) g) := rfl
theorem v_range2 {B : V → G → Prop} : S_range [.int i, .int j] g B = (Builtin.Range.small i j 1 = true ∧ B (.rng i j 1) g) := rfl
theorem v_range3 {B : V → G → Prop} {d : Int} : S_range [.int i, .int j, .int d] g B = ((d ≠ 0 ∧ (j - i).natAbs < 2 ^ 30 ∧ d.natAbs < 2 ^ 30) ∧ Builtin.Range.small i j d = true ∧ B (.rng i j d) g) := rfl
theorem v_iter_n {B : List It → Prop} : onIter (.obj .numbers) st B = (st.g.done = true ∧ B (st.g.numbers.map .one)) := rfl
theorem v_iter_l {B : List It → Prop} : onIter (.lst l) st B = B (l.map .one) := rfl
theorem v_iter_t {B : List It → Prop} : onIter (.tup l) st B = B (l.map .one) := rfl
theorem v_iter_r {B : List It → Prop} {a b d : Int} : onIter (.rng a b d) st B = ((Builtin.Range.rangeSize a b d).toNat ≤ sizeLine ∧ B ((rngL a b d).map fun i => .one (.int i))) := rfl
theorem v_ap_k {B : G → Prop} {s : Str} : onApp (.obj .kinds) (.str s) g B = (g.kinds.length + 1 ≤ sizeLine ∧ B { g with kinds := g.kinds ++ [s] }) := rfl
theorem v_ap_p {B : G → Prop} : onApp (.obj .parts) (.tup l) g B = ∃ ns : List Int, l = ns.map .int ∧ g.parts.length + 1 ≤ sizeLine ∧ B { g with parts := g.parts ++ [ns] } := rfl
theorem v_ap_n {B : G → Prop} : onApp (.obj .numbers) v g B = ((g.done = false ∧ g.numbers.length + 1 ≤ sizeLine) ∧ B { g with numbers := g.numbers ++ [v] }) := rfl
theorem v_st_known {B : G → Prop} : onSet (.obj .known) (.tup l) (.int j) g B = ∃ ns : List Int, l = ns.map .int ∧ g.known.lookup ns = none ∧ g.known.length + 1 ≤ sizeLine ∧ B { g with known := g.known ++ [(ns, j)] } := rfl
theorem v_st_at {B : G → Prop} : onSet (.obj .feed) (.str x) (.int j) g B = (x = Str.ofString "at" ∧ B { g with at_ := j }) := rfl
theorem v_st_in {B : G → Prop} : onSet (.obj .world) (.str x) (.lst l) g B = ∃ ns : List Int, l = ns.map .int ∧ x = Str.ofString "inputs" ∧ g.ready = false ∧ B { g with inputs := ns, ready := true } := rfl
theorem v_ob1 {p : Prop} : onLs (.obj .kinds) p = p := rfl
theorem v_ob2 {p : Prop} : onLs (.obj .parts) p = p := rfl
theorem v_ob3 {p : Prop} : onLs (.obj .numbers) p = p := rfl
theorem v_wh {Tt : St → (Bool → St → Prop) → Prop} {U : St → (Fl → St → Prop) → Prop} {n : Nat} {B : Fl → St → Prop} : whT Tt U (n + 1) st B = Tt st fun b st1 => match b with
    | false => B .next st1
    | true => U st1 fun fl st2 => match fl with
      | .next => whT Tt U n st2 B
      | .cont => whT Tt U n st2 B
      | .brk => B .next st2
      | .ret v => B (.ret v) st2 := rfl
end

theorem whT_inv {Tt : St → (Bool → St → Prop) → Prop} {U : St → (Fl → St → Prop) → Prop} {B : Fl → St → Prop} (I : Nat → St → Prop) (h0 : ∀ st, ¬ I 0 st)
    (step : ∀ k st (rec : St → Prop), (∀ st', I k st' → rec st') → I (k + 1) st → Tt st fun b st1 => match b with
      | false => B .next st1
      | true => U st1 fun fl st2 => match fl with
        | .next => rec st2
        | .cont => rec st2
        | .brk => B .next st2
        | .ret v => B (.ret v) st2) : ∀ k st, I k st → whT Tt U k st B
  | 0, st, h => (h0 st h).elim
  | k + 1, st, h => step k st (fun st' => whT Tt U k st' B) (fun st' h' => whT_inv I h0 step k st' h') h
theorem forT_inv {as : It → St → (St → Prop) → Prop} {U : St → (Fl → St → Prop) → Prop} {B : Fl → St → Prop} (I : List It → St → Prop)
    (step : ∀ it r st (rec : St → Prop), (∀ st', I r st' → rec st') → I (it :: r) st → as it st fun st1 => U st1 fun fl st2 => match fl with
        | .next => rec st2
        | .cont => rec st2
        | .brk => B .next st2
        | .ret v => B (.ret v) st2) (nil : ∀ st, I [] st → B .next st) : ∀ l st, I l st → forT as U l st B
  | [], st, h => nil st h
  | it :: r, st, h => step it r st (fun st' => forT as U r st' B) (fun st' h' => forT_inv I step nil r st' h') h
theorem compT_inv {as : It → St → (St → Prop) → Prop} {Tt : St → (Bool → St → Prop) → Prop} {U : St → (V → St → Prop) → Prop} {B : List V → St → Prop} (I : List It → List V → St → Prop)
    (step : ∀ it r acc st (rec : List V → St → Prop), (∀ acc' st', I r acc' st' → rec acc' st') → I (it :: r) acc st → as it st fun st1 => Tt st1 fun b st2 => match b with
        | true => U st2 fun v st3 => rec (acc ++ [v]) st3
        | false => rec acc st2) (nil : ∀ acc st, I [] acc st → B acc st) : ∀ l acc st, I l acc st → compT as Tt U l acc st B
  | [], acc, st, h => nil acc st h
  | it :: r, acc, st, h => step it r acc st (fun acc' st' => compT as Tt U r acc' st' B) (fun acc' st' h' => compT_inv I step nil r acc' st' h') h
theorem len0 {xs : List Value} (h : xs.length = 0) : xs = [] := List.length_eq_zero_iff.mp h
theorem len1 {xs : List Value} (h : xs.length = 1) : ∃ a, xs = [a] := List.length_eq_one_iff.mp h
theorem len2 {xs : List Value} (h : xs.length = 2) : ∃ a b, xs = [a, b] := by
  cases xs with
  | nil => cases h
  | cons a t =>
    obtain ⟨b, q⟩ := len1 (xs := t) (Nat.succ.inj h)
    exact ⟨a, b, by rw [q]⟩
theorem len3 {xs : List Value} (h : xs.length = 3) : ∃ a b d, xs = [a, b, d] := by
  cases xs with
  | nil => cases h
  | cons a t =>
    obtain ⟨b, d, q⟩ := len2 (xs := t) (Nat.succ.inj h)
    exact ⟨a, b, d, by rw [q]⟩
theorem len4 {xs : List Value} (h : xs.length = 4) : ∃ a b d e, xs = [a, b, d, e] := by
  cases xs with
  | nil => cases h
  | cons a t =>
    obtain ⟨b, d, e, q⟩ := len3 (xs := t) (Nat.succ.inj h)
    exact ⟨a, b, d, e, by rw [q]⟩

end Mine

namespace Mine
section
variable {c : Cx} {n : Nat} {sc : List (Str × NameKind)}
theorem o_b_add2 {l r : Expr} {pos : Pos} {Tl Tr : St → (V → St → Prop) → Prop} (hl : SemE c n sc l Tl) (hr : SemE c n sc r Tr) : SemE c n sc (.BinOp l .Add r pos) (T2 Tl Tr bAdd2) := e_bin b_add2 hl hr
theorem o_b_sub {l r : Expr} {pos : Pos} {Tl Tr : St → (V → St → Prop) → Prop} (hl : SemE c n sc l Tl) (hr : SemE c n sc r Tr) : SemE c n sc (.BinOp l .Sub r pos) (T2 Tl Tr bSub) := e_bin b_sub hl hr
theorem o_b_mul2 {l r : Expr} {pos : Pos} {Tl Tr : St → (V → St → Prop) → Prop} (hl : SemE c n sc l Tl) (hr : SemE c n sc r Tr) : SemE c n sc (.BinOp l .Mult r pos) (T2 Tl Tr bMul2) := e_bin b_mul2 hl hr
theorem o_b_mod {l r : Expr} {pos : Pos} {Tl Tr : St → (V → St → Prop) → Prop} (hl : SemE c n sc l Tl) (hr : SemE c n sc r Tr) : SemE c n sc (.BinOp l .Mod r pos) (T2 Tl Tr bMod) := e_bin b_mod hl hr
theorem o_b_div {l r : Expr} {pos : Pos} {Tl Tr : St → (V → St → Prop) → Prop} (hl : SemE c n sc l Tl) (hr : SemE c n sc r Tr) : SemE c n sc (.BinOp l .FloorDiv r pos) (T2 Tl Tr bDiv) := e_bin b_div hl hr
theorem o_b_shl {l r : Expr} {pos : Pos} {Tl Tr : St → (V → St → Prop) → Prop} (hl : SemE c n sc l Tl) (hr : SemE c n sc r Tr) : SemE c n sc (.BinOp l .LShift r pos) (T2 Tl Tr bShl) := e_bin b_shl hl hr
theorem o_b_shr {l r : Expr} {pos : Pos} {Tl Tr : St → (V → St → Prop) → Prop} (hl : SemE c n sc l Tl) (hr : SemE c n sc r Tr) : SemE c n sc (.BinOp l .RShift r pos) (T2 Tl Tr bShr) := e_bin b_shr hl hr
theorem o_b_and {l r : Expr} {pos : Pos} {Tl Tr : St → (V → St → Prop) → Prop} (hl : SemE c n sc l Tl) (hr : SemE c n sc r Tr) : SemE c n sc (.BinOp l .BitAnd r pos) (T2 Tl Tr bAnd) := e_bin b_and hl hr
theorem oe_c_lt {l r : Expr} {pos : Pos} {Tl Tr : St → (V → St → Prop) → Prop} (hl : SemE c n sc l Tl) (hr : SemE c n sc r Tr) (hm : behindInMarks .Lt r = false) : SemE c n sc (.Compare l [.Lt] [r] pos) (T2 Tl Tr cLt) := e_cmp c_lt hl hr hm
theorem ot_c_lt {l r : Expr} {pos : Pos} {Tl Tr : St → (V → St → Prop) → Prop} (hl : SemE c n sc l Tl) (hr : SemE c n sc r Tr) (hm : behindInMarks .Lt r = false) : SemT c n sc (.Compare l [.Lt] [r] pos) (fun st P => Tl st fun a st1 => Tr st1 fun b st2 => cLt a b st2 fun v => onBool v fun t => P t st2) := t_cmp c_lt hl hr hm
theorem oe_c_gt {l r : Expr} {pos : Pos} {Tl Tr : St → (V → St → Prop) → Prop} (hl : SemE c n sc l Tl) (hr : SemE c n sc r Tr) (hm : behindInMarks .Gt r = false) : SemE c n sc (.Compare l [.Gt] [r] pos) (T2 Tl Tr cGt) := e_cmp c_gt hl hr hm
theorem ot_c_gt {l r : Expr} {pos : Pos} {Tl Tr : St → (V → St → Prop) → Prop} (hl : SemE c n sc l Tl) (hr : SemE c n sc r Tr) (hm : behindInMarks .Gt r = false) : SemT c n sc (.Compare l [.Gt] [r] pos) (fun st P => Tl st fun a st1 => Tr st1 fun b st2 => cGt a b st2 fun v => onBool v fun t => P t st2) := t_cmp c_gt hl hr hm
theorem oe_c_le {l r : Expr} {pos : Pos} {Tl Tr : St → (V → St → Prop) → Prop} (hl : SemE c n sc l Tl) (hr : SemE c n sc r Tr) (hm : behindInMarks .LtE r = false) : SemE c n sc (.Compare l [.LtE] [r] pos) (T2 Tl Tr cLe) := e_cmp c_le hl hr hm
theorem ot_c_le {l r : Expr} {pos : Pos} {Tl Tr : St → (V → St → Prop) → Prop} (hl : SemE c n sc l Tl) (hr : SemE c n sc r Tr) (hm : behindInMarks .LtE r = false) : SemT c n sc (.Compare l [.LtE] [r] pos) (fun st P => Tl st fun a st1 => Tr st1 fun b st2 => cLe a b st2 fun v => onBool v fun t => P t st2) := t_cmp c_le hl hr hm
theorem oe_c_eq {l r : Expr} {pos : Pos} {Tl Tr : St → (V → St → Prop) → Prop} (hl : SemE c n sc l Tl) (hr : SemE c n sc r Tr) (hm : behindInMarks .Eq r = false) : SemE c n sc (.Compare l [.Eq] [r] pos) (T2 Tl Tr cEq) := e_cmp c_eq hl hr hm
theorem ot_c_eq {l r : Expr} {pos : Pos} {Tl Tr : St → (V → St → Prop) → Prop} (hl : SemE c n sc l Tl) (hr : SemE c n sc r Tr) (hm : behindInMarks .Eq r = false) : SemT c n sc (.Compare l [.Eq] [r] pos) (fun st P => Tl st fun a st1 => Tr st1 fun b st2 => cEq a b st2 fun v => onBool v fun t => P t st2) := t_cmp c_eq hl hr hm
theorem oe_c_ne {l r : Expr} {pos : Pos} {Tl Tr : St → (V → St → Prop) → Prop} (hl : SemE c n sc l Tl) (hr : SemE c n sc r Tr) (hm : behindInMarks .NotEq r = false) : SemE c n sc (.Compare l [.NotEq] [r] pos) (T2 Tl Tr cNe) := e_cmp c_ne hl hr hm
theorem ot_c_ne {l r : Expr} {pos : Pos} {Tl Tr : St → (V → St → Prop) → Prop} (hl : SemE c n sc l Tl) (hr : SemE c n sc r Tr) (hm : behindInMarks .NotEq r = false) : SemT c n sc (.Compare l [.NotEq] [r] pos) (fun st P => Tl st fun a st1 => Tr st1 fun b st2 => cNe a b st2 fun v => onBool v fun t => P t st2) := t_cmp c_ne hl hr hm
theorem oe_c_notIn {l r : Expr} {pos : Pos} {Tl Tr : St → (V → St → Prop) → Prop} (hl : SemE c n sc l Tl) (hr : SemE c n sc r Tr) (hm : behindInMarks .NotIn r = false) : SemE c n sc (.Compare l [.NotIn] [r] pos) (T2 Tl Tr cNotIn) := e_cmp c_notIn hl hr hm
theorem ot_c_notIn {l r : Expr} {pos : Pos} {Tl Tr : St → (V → St → Prop) → Prop} (hl : SemE c n sc l Tl) (hr : SemE c n sc r Tr) (hm : behindInMarks .NotIn r = false) : SemT c n sc (.Compare l [.NotIn] [r] pos) (fun st P => Tl st fun a st1 => Tr st1 fun b st2 => cNotIn a b st2 fun v => onBool v fun t => P t st2) := t_cmp c_notIn hl hr hm
end
end Mine

namespace Mine

local macro_rules | `(tactic| walk_at "mine tgt") => `(tactic| first
  | ((with_reducible refine' Tgt.name ?h1); (case h1 => first | exact .inl rfl | exact .inr rfl))
  | ((with_reducible refine' Tgt.pair ?h1 ?h2); (case h1 => first | exact .inl rfl | exact .inr rfl); (case h2 => first | exact .inl rfl | exact .inr rfl)))
local macro_rules | `(tactic| walk_at "mine plain") => `(tactic| first
  | (intro env h hf hc; exact swap_cell (hc rfl))
  | (intros; with_unfolding_all rfl))
local macro_rules | `(tactic| walk_at "mine swap") => `(tactic| (intro env hk hf; refine' swap_true hk hf ?h1 ?h2; (case h1 | h2 => (intros; with_unfolding_all rfl))))
local macro_rules | `(tactic| walk_at "mine swapped") => `(tactic| first
  | (intro env hf hx hy; refine' swapped_some hf hx hy ?h1 ?h2 ?h3 ?h4 ?h5 ?h6; (case h3 => rfl); (case h4 => rfl); (case h1 | h2 | h5 | h6 => (intros; with_unfolding_all rfl)))
  | (intro env hf hz; refine' swapped_cell hf (hz _ .cell rfl (.inr rfl)) ?h1 ?h2; (case h1 => rfl); (case h2 => rfl)))

local macro_rules | `(tactic| walk_at "mine callee") => `(tactic| first
  | (refine' callee_boot ?h1 ?hk ?hb ?hn ?hd ?hf; (case hb | h1 => with_unfolding_all rfl); (case hk => kernel_rfl); (case hn => decide); (case hd => rfl); (case hf => (intros; with_unfolding_all rfl)))
  | (refine' callee_def ?h1 ?hk ?hf ?hd; (case h1 | hk => with_unfolding_all rfl); (case hf => kernel_rfl); (case hd => rfl)))
local macro_rules | `(tactic| walk_at "mine go") => `(tactic| first
  | ((with_reducible refine' seq_gen ?_); intro R hR)
  | ((with_reducible refine' if_gen ?_); intro R S hR hS)
  | ((with_reducible refine' for_gen ?_); intro R hR)
  | ((with_reducible refine' Nxt.go ?hn ?_); (case hn => assumption))
  | ((with_reducible refine' end_gen ?_); intro R hR)
  | ((with_reducible refine' NxE.go ?hn ?_); (case hn => assumption)))
local macro_rules | `(tactic| walk_at "mine gof") => `(tactic| ((with_reducible refine' NxF.go ?hn ?_); (case hn => assumption)))
local macro_rules | `(tactic| walk_at "mine sc") => `(tactic| simp (decide := true) only [decide_true, decide_false, Bool.not_true, Bool.not_false, if_true, if_false, true_and, and_true, true_or, or_true, List.map_cons, List.map_nil, List.zip_cons_cons, List.zip_nil_left, List.zip_nil_right, retV, v_set_loc, v_set_own, v_set_g, v_so_loc, v_so_own, v_so_g, v_at_none, v_at_lst, v_at_dct, v_init_loc, v_init_own, v_init_g, v_initL_cons, v_initL_nil, v_inner_loc, v_inner_g, v_inner_own, v_innerO_none, v_innerO_lst, v_innerO_dct, v_name, v_nameK, v_nameN, v_nameO, v_subn, v_subK, v_subN, v_subO, v_app, v_appO, v_T2, v_sorted, v_sortO, v_in, v_inOwn, v_inO, v_setdct, v_setO, v_comp, v_onInt, v_onBool, v_onIntE, v_add, v_addl, v_sub, v_mul, v_mull, v_mod, v_div, v_shl, v_shr, v_and, v_lt, v_le, v_gt, v_eq, v_eqb, v_eqs, v_ne, v_neb, v_nik, v_sub_tup, v_sub_lst, v_sub_kinds, v_sub_parts, v_sub_numbers, v_sub_known, v_sub_cells, v_sub_at, v_sub_inputs, v_sub_circuit, v_sub_binary, v_sub_numb, v_at_kinds, v_at_parts, v_at_known, v_at_circuit, v_isob1, v_isob2, v_upto_l, v_upto_t, v_from_l, v_len_l, v_len_t, v_len_k, v_len_n, v_abs, v_max, v_int, v_tuple_l, v_tuple_t, v_list, v_range1, v_range2, v_range3, v_iter_n, v_iter_l, v_iter_t, v_iter_r, v_ap_k, v_ap_p, v_ap_n, v_st_known, v_st_at, v_st_in, v_ob1, v_ob2, v_ob3, v_wh])
local macro_rules | `(tactic| walk_at "mine sk") => `(tactic| (
  refine' (?vf : VT _ _) ?ve
  case ve => (walk_at "mine sc"; exact rfl)
  intro ve
  refine' vmp (?vk : type_of% ve) ?vg
  case vk => kernel_rfl!
  clear ve))
local macro_rules | `(tactic| walk_at "mine s1") => `(tactic| first | walk_at "mine sk" | walk_at "mine sc")
local macro_rules | `(tactic| walk_at "mine ss") => `(tactic| simp only [decide_true, decide_false, Bool.not_true, Bool.not_false, if_true, if_false, true_and, and_true, *])
local macro_rules | `(tactic| walk_at "mine vc") => `(tactic| ((repeat walk_at "mine go"); (try walk_at "mine s1"); (repeat (walk_at "mine go"; (repeat walk_at "mine go"); (try walk_at "mine s1"))); (try walk_at "mine gof")))
local macro_rules | `(tactic| walk_at "mine vs") => `(tactic| ((repeat walk_at "mine go"); (try walk_at "mine s1"); (repeat (first | (walk_at "mine go"; (repeat walk_at "mine go"); (try walk_at "mine s1")) | (walk_at "mine ss"; (try walk_at "mine s1")))); (try walk_at "mine gof")))

noncomputable def place (ns : List Int) (i : Nat) : Int := ns.getD i (ns.getLastD 0)
theorem ix_nat {α : Type} (l : List α) (i : Nat) (h : i < l.length) : ix l (i : Int) = some l[i] := by
  unfold ix seqIndex?
  have h0 : ¬ ((i : Int) < 0) := by lia
  simp [h0, h]
theorem ix_neg1 {α : Type} (l : List α) (h : l ≠ []) : ix l (-1) = some (l.getLast h) := by
  have hl : 0 < l.length := List.length_pos_iff.mpr h
  unfold ix seqIndex?
  have e : ((-1 : Int) + l.length).toNat = l.length - 1 := by lia
  have h1 : (0 : Int) ≤ -1 + l.length := by lia
  have h2 : (-1 : Int) + l.length < l.length := by lia
  have h3 : ((l.length : Int) - 1).toNat = l.length - 1 := by lia
  simp only [show ((-1 : Int) < 0) from by decide, if_true, h1, h2, decide_true, Bool.and_self, e, Option.bind_some, List.getLast_eq_getElem]
  simp

noncomputable def S_place_of (args : List V) (g : G) (P : V → G → Prop) : Prop := ∃ (ns : List Int) (i : Nat), args = [.tup (ns.map .int), .int i] ∧ ns ≠ [] ∧ P (.int (place ns i)) g
theorem f_place_of (c : Cx) : CallS c 1 (.ref 28) S_place_of := by
  refine' callS_intro ?kk ?ho ?hcd ?hbind ?hkind ?hfree ?hco ?hgen ?hk ?hB ?hS
  case ho => (show (hd.heap_39 _).lookup _ = _; with_unfolding_all rfl)
  case hcd => kernel_rfl
  case hkind => rfl
  case hfree => rfl
  case hco => rfl
  case hgen => rfl
  case hk => rfl
  case kk => exact 2
  case hbind => (intro xs hx; obtain ⟨a, b, ee⟩ := len2 hx; subst ee; rfl)
  case hB =>
    repeat' first
      | (with_reducible refine' s_nil)
      | (with_reducible refine' s_cons ?_ ?_)
      | (with_reducible refine' s_ret ?_)
      | (with_reducible refine' e_int)
      | ((with_reducible refine' e_name2 ?h1 ?h2); (case h1 | h2 => (intros; with_unfolding_all rfl)))
      | (with_reducible refine' e_if ?_ ?_ ?_)
      | ((with_reducible refine' ot_c_lt ?_ ?_ ?h1); (case h1 => with_unfolding_all rfl))
      | (with_reducible refine' e_neg ?_)
      | ((with_reducible refine' e_subn ?_ ?h1 ?h2 ?h3); (case h1 | h2 | h3 => (intros; with_unfolding_all rfl)))
      | (with_reducible refine' a_nil)
      | ((with_reducible refine' a_cons ?_ ?_ ?h1); (case h1 => (intros; with_unfolding_all rfl)))
      | ((with_reducible refine' e_call ?hfe ?hC ?hm ?_ ?h1 ?h2); (case hfe => walk_at "mine callee"); (case hC => (first | exact c_len)); (case hm => decide); (case h1 | h2 => (intros; with_unfolding_all rfl)))
  rintro args g P ⟨ns, i, rfl, hne, hP⟩
  refine ⟨rfl, ?_⟩
  walk_at "mine vc"
  by_cases h : i < ns.length
  · have : ((i : Int) < ((ns.map V.int).length : Nat)) := by rw [List.length_map]; lia
    rw [decide_eq_true this]
    refine ⟨.int ns[i], by rw [ix_nat _ _ (by simpa using h)]; simp, ?_⟩
    have e : place ns i = ns[i] := by simp [place, List.getD_eq_getElem?_getD, h]
    rw [e] at hP; exact hP
  · have : ¬ ((i : Int) < ((ns.map V.int).length : Nat)) := by rw [List.length_map]; lia
    rw [decide_eq_false this]
    refine ⟨.int (ns.getLast hne), by rw [ix_neg1 _ (by simpa using hne)]; simp, ?_⟩
    have e : place ns i = ns.getLast hne := by simp [place, List.getD_eq_getElem?_getD, List.getElem?_eq_none (Nat.not_lt.mp h), List.getLastD_eq_getLast?, List.getLast?_eq_some_getLast hne]
    rw [e] at hP; exact hP

noncomputable def S_trimmed (args : List V) (g : G) (P : V → G → Prop) : Prop := ∃ ns : List Int, (args = [.tup (ns.map .int)] ∨ args = [.lst (ns.map .int)]) ∧ ns ≠ [] ∧
  ∀ k : Nat, 1 ≤ k → k ≤ ns.length → (∀ j, k ≤ j → j < ns.length → ns[j]? = ns[k - 1]?) → P (.tup ((ns.take k).map .int)) g
theorem f_trimmed (c : Cx) : CallS c 1 (.ref 35) S_trimmed := by
  refine' callS_intro ?kk ?ho ?hcd ?hbind ?hkind ?hfree ?hco ?hgen ?hk ?hB ?hS
  case ho => (show (hd.heap_39 _).lookup _ = _; with_unfolding_all rfl)
  case hcd => kernel_rfl
  case hkind => rfl
  case hfree => rfl
  case hco => rfl
  case hgen => rfl
  case hk => rfl
  case kk => exact 1
  case hbind => (intro xs hx; obtain ⟨a, ee⟩ := len1 hx; subst ee; rfl)
  case hB =>
    repeat' first
      | (with_reducible refine' s_nil)
      | (with_reducible refine' s_cons ?_ ?_)
      | (with_reducible refine' s_ret ?_)
      | (with_reducible refine' s_while ?_ ?_)
      | (with_reducible refine' e_int)
      | ((with_reducible refine' e_name2 ?h1 ?h2); (case h1 | h2 => (intros; with_unfolding_all rfl)))
      | (with_reducible refine' t_and ?_ ?_)
      | ((with_reducible refine' ot_c_gt ?_ ?_ ?h1); (case h1 => with_unfolding_all rfl))
      | ((with_reducible refine' ot_c_eq ?_ ?_ ?h1); (case h1 => with_unfolding_all rfl))
      | (with_reducible refine' o_b_sub ?_ ?_)
      | (with_reducible refine' e_upto ?_ ?_)
      | ((with_reducible refine' e_subn ?_ ?h1 ?h2 ?h3); (case h1 | h2 | h3 => (intros; with_unfolding_all rfl)))
      | (with_reducible refine' a_nil)
      | ((with_reducible refine' a_cons ?_ ?_ ?h1); (case h1 => (intros; with_unfolding_all rfl)))
      | ((with_reducible refine' e_call ?hfe ?hC ?hm ?_ ?h1 ?h2); (case hfe => walk_at "mine callee"); (case hC => (first | exact c_len | exact c_tuple)); (case hm => decide); (case h1 | h2 => (intros; with_unfolding_all rfl)))
      | ((with_reducible refine' s_asgn ?_ ?h1 ?h2); (case h1 => first | exact .inl rfl | exact .inr rfl); (case h2 => walk_at "mine plain"))
  rintro args g P ⟨ns, ha, hne, hP⟩
  have hpos : 0 < ns.length := List.length_pos_iff.mpr hne
  refine ⟨by rcases ha with rfl | rfl <;> rfl, ?_⟩
  rcases ha with rfl | rfl
  all_goals
    walk_at "mine vc"
    rename_i R hR
    refine ⟨ns.length, ?_⟩
    refine whT_inv (fun k st => 1 ≤ k ∧ k ≤ ns.length ∧ (∀ j, k ≤ j → j < ns.length → ns[j]? = ns[k - 1]?) ∧ (st.loc (Str.ofString "a") = some (.tup (ns.map .int)) ∨ st.loc (Str.ofString "a") = some (.lst (ns.map .int))) ∧ st.loc (Str.ofString "many") = some (.int k) ∧ st.own = .none ∧ st.g = g) ?_ ?_ _ _ ?_
    · rintro st ⟨h, _⟩; lia
    · rintro k st rec hrec ⟨h1, h2, h3, ha, hm, ho, hg⟩
      have hlen : (ns.map V.int).length = ns.length := List.length_map ..
      have done : P (.tup ((ns.take (k + 1)).map .int)) st.g := by rw [hg]; exact hP (k + 1) h1 h2 h3
      have fin : R st := by
        refine Nxt.go hR ?_
        clear hrec hR h3 hP
        rcases ha with ha | ha
        · walk_at "mine vs"
          refine ⟨⟨by lia, by lia⟩, ?_⟩
          rw [Int.toNat_natCast, ← List.map_take, ← hg]; exact done
        · walk_at "mine vs"
          refine ⟨by lia, ?_⟩
          rw [Int.toNat_natCast, ← List.map_take, ← hg]; exact done
      by_cases hk : k = 0
      · subst hk
        rcases ha with ha | ha <;> simp only [hm, ha, v_name, v_nameK, v_gt, v_onBool] <;> rw [decide_eq_false (by decide)]
        · exact fin
        · exact fin
      · have hk1 : ((1 : Int) < ((k + 1 : Nat) : Int)) := by lia
        have i1 : (((k + 1 : Nat) : Int) - 1) = ((k : Nat) : Int) := by lia
        have i2 : (((k + 1 : Nat) : Int) - 2) = ((k - 1 : Nat) : Int) := by lia
        have x1 : ix (ns.map V.int) (((k + 1 : Nat) : Int) - 1) = some (.int ns[k]) := by rw [i1, ix_nat _ _ (by rw [hlen]; lia)]; simp
        have x2 : ix (ns.map V.int) (((k + 1 : Nat) : Int) - 2) = some (.int ns[k - 1]) := by rw [i2, ix_nat _ _ (by rw [hlen]; lia)]; simp
        rcases ha with ha | ha
        all_goals
          simp only [hm, ha, v_name, v_nameK, v_gt, v_onBool, decide_eq_true hk1, v_subn, v_subK, v_T2, v_sub, v_sub_tup, v_sub_lst]
          refine ⟨_, x1, _, x2, ?_⟩
          simp only [v_eq, v_onBool]
          by_cases he : ns[k] = ns[k - 1]
          · rw [decide_eq_true he]
            dsimp only
            walk_at "mine go"
            simp only [hm, v_name, v_nameK, v_sub]
            walk_at "mine go"
            refine hrec _ ⟨by lia, by lia, fun j j1 j2 => ?_, ?_, ?_, ?_, ?_⟩
            · by_cases hj : j = k
              · subst hj
                rw [List.getElem?_eq_getElem j2, List.getElem?_eq_getElem (by lia)]; exact congrArg some he
              · rw [h3 j (by lia) j2, Nat.add_sub_cancel, List.getElem?_eq_getElem (by lia), List.getElem?_eq_getElem (by lia)]; exact congrArg some he
            · simp (decide := true) only [v_set_loc, if_false, ha, true_or, or_true]
            · simp (decide := true) only [v_set_loc, if_true, i1]
            · simp only [v_set_own, ho, v_at_none]; rfl
            · rw [v_set_g, hg]
          · rw [decide_eq_false he]
            exact fin
    · refine ⟨hpos, Nat.le_refl _, fun j h1 h2 => by lia, ?_, ?_, ?_, ?_⟩
      · first | exact .inl rfl | exact .inr rfl
      · show some (V.int ((ns.map V.int).length : Nat)) = _
        rw [List.length_map]
      · rfl
      · rfl

noncomputable def S_new_gate (args : List V) (g : G) (P : V → G → Prop) : Prop := ∃ (kd : Str) (ps : List Int), args = [.obj .circ, .str kd, .tup (ps.map .int)] ∧ g.kinds.length + 1 ≤ sizeLine ∧ g.parts.length + 1 ≤ sizeLine ∧
  P (.int g.kinds.length) { g with kinds := g.kinds ++ [kd], parts := g.parts ++ [ps] }
theorem f_new_gate (c : Cx) : CallS c 1 (.ref 179) S_new_gate := by
  refine' callS_intro ?kk ?ho ?hcd ?hbind ?hkind ?hfree ?hco ?hgen ?hk ?hB ?hS
  case ho => (show (hd.heap_39 _).lookup _ = _; with_unfolding_all rfl)
  case hcd => kernel_rfl
  case hkind => rfl
  case hfree => rfl
  case hco => rfl
  case hgen => rfl
  case hk => rfl
  case kk => exact 3
  case hbind => (intro xs hx; obtain ⟨a, b, d, ee⟩ := len3 hx; subst ee; rfl)
  case hB =>
    repeat' first
      | (with_reducible refine' s_nil)
      | (with_reducible refine' s_cons ?_ ?_)
      | (with_reducible refine' s_ret ?_)
      | (with_reducible refine' e_int)
      | ((with_reducible refine' e_name2 ?h1 ?h2); (case h1 | h2 => (intros; with_unfolding_all rfl)))
      | (with_reducible refine' o_b_sub ?_ ?_)
      | ((with_reducible refine' e_attr ?_ ?h1); (case h1 => (intros; with_unfolding_all rfl)))
      | (with_reducible refine' a_nil)
      | ((with_reducible refine' a_cons ?_ ?_ ?h1); (case h1 => (intros; with_unfolding_all rfl)))
      | ((with_reducible refine' e_call ?hfe ?hC ?hm ?_ ?h1 ?h2); (case hfe => walk_at "mine callee"); (case hC => (first | exact c_len)); (case hm => decide); (case h1 | h2 => (intros; with_unfolding_all rfl)))
      | ((with_reducible refine' e_appobj ?_ ?_ ?h1 ?h2); (case h1 | h2 => (intros; with_unfolding_all rfl)))
      | ((with_reducible refine' s_expr ?_ ?h2); (case h2 => (intros; with_unfolding_all rfl)))
  rintro args g P ⟨kd, ps, rfl, h1, h2, hP⟩
  refine ⟨rfl, ?_⟩
  walk_at "mine vc"
  refine ⟨h1, ?_⟩
  walk_at "mine vc"
  refine ⟨ps, rfl, h2, ?_⟩
  walk_at "mine vc"
  have e : (((g.kinds ++ [kd]).length : Nat) : Int) - 1 = (g.kinds.length : Nat) := by simp
  rw [e]; exact hP

noncomputable def S_new_input (args : List V) (g : G) (P : V → G → Prop) : Prop := args = [.obj .circ] ∧ g.kinds.length + 1 ≤ sizeLine ∧ g.parts.length + 1 ≤ sizeLine ∧
  P (.int g.kinds.length) { g with kinds := g.kinds ++ [sInput], parts := g.parts ++ [[]] }
theorem f_new_input (c : Cx) : CallS c 2 (.ref 186) S_new_input := by
  refine' callS_intro ?kk ?ho ?hcd ?hbind ?hkind ?hfree ?hco ?hgen ?hk ?hB ?hS
  case ho => (show (hd.heap_39 _).lookup _ = _; with_unfolding_all rfl)
  case hcd => kernel_rfl
  case hkind => rfl
  case hfree => rfl
  case hco => rfl
  case hgen => rfl
  case hk => rfl
  case kk => exact 1
  case hbind => (intro xs hx; obtain ⟨a, ee⟩ := len1 hx; subst ee; rfl)
  case hB =>
    repeat' first
      | (with_reducible refine' s_nil)
      | (with_reducible refine' s_cons ?_ ?_)
      | (with_reducible refine' s_ret ?_)
      | (with_reducible refine' e_str)
      | ((with_reducible refine' e_name2 ?h1 ?h2); (case h1 | h2 => (intros; with_unfolding_all rfl)))
      | (with_reducible refine' a_nil)
      | ((with_reducible refine' a_cons ?_ ?_ ?h1); (case h1 => (intros; with_unfolding_all rfl)))
      | (with_reducible refine' e_tup ?_)
      | ((with_reducible refine' e_meth (k := .circ) ?_ ?hC ?hm ?_ ?h1 ?h2 ?h3 ?h4 ?h5 ?h6); (case h1 => with_unfolding_all rfl); (case hC => (first | exact f_new_gate _)); (case hm => decide); (case h2 => kernel_rfl); (case h3 => kernel_rfl); (case h4 | h5 | h6 => (intros; with_unfolding_all rfl)))
  rintro args g P ⟨rfl, h1, h2, hP⟩
  refine ⟨rfl, ?_⟩
  walk_at "mine vc"
  exact ⟨sInput, [], rfl, h1, h2, hP⟩

noncomputable def S_size (args : List V) (g : G) (P : V → G → Prop) : Prop := args = [.obj .circ] ∧ P (.int (g.kinds.length - 1)) g
theorem f_size (c : Cx) : CallS c 1 (.ref 158) S_size := by
  refine' callS_intro ?kk ?ho ?hcd ?hbind ?hkind ?hfree ?hco ?hgen ?hk ?hB ?hS
  case ho => (show (hd.heap_39 _).lookup _ = _; with_unfolding_all rfl)
  case hcd => kernel_rfl
  case hkind => rfl
  case hfree => rfl
  case hco => rfl
  case hgen => rfl
  case hk => rfl
  case kk => exact 1
  case hbind => (intro xs hx; obtain ⟨a, ee⟩ := len1 hx; subst ee; rfl)
  case hB =>
    repeat' first
      | (with_reducible refine' s_nil)
      | (with_reducible refine' s_cons ?_ ?_)
      | (with_reducible refine' s_ret ?_)
      | (with_reducible refine' e_int)
      | ((with_reducible refine' e_name2 ?h1 ?h2); (case h1 | h2 => (intros; with_unfolding_all rfl)))
      | (with_reducible refine' o_b_sub ?_ ?_)
      | ((with_reducible refine' e_attr ?_ ?h1); (case h1 => (intros; with_unfolding_all rfl)))
      | (with_reducible refine' a_nil)
      | ((with_reducible refine' a_cons ?_ ?_ ?h1); (case h1 => (intros; with_unfolding_all rfl)))
      | ((with_reducible refine' e_call ?hfe ?hC ?hm ?_ ?h1 ?h2); (case hfe => walk_at "mine callee"); (case hC => (first | exact c_len)); (case hm => decide); (case h1 | h2 => (intros; with_unfolding_all rfl)))
  rintro args g P ⟨rfl, hP⟩
  refine ⟨rfl, ?_⟩
  walk_at "mine vc"
  exact hP

noncomputable def S_kind (args : List V) (g : G) (P : V → G → Prop) : Prop := ∃ (x : Int) (kd : Str), args = [.obj .circ, .int x] ∧ g.kinds[x.natAbs]? = some kd ∧ P (.str kd) g
theorem f_kind (c : Cx) : CallS c 1 (.ref 165) S_kind := by
  refine' callS_intro ?kk ?ho ?hcd ?hbind ?hkind ?hfree ?hco ?hgen ?hk ?hB ?hS
  case ho => (show (hd.heap_39 _).lookup _ = _; with_unfolding_all rfl)
  case hcd => kernel_rfl
  case hkind => rfl
  case hfree => rfl
  case hco => rfl
  case hgen => rfl
  case hk => rfl
  case kk => exact 2
  case hbind => (intro xs hx; obtain ⟨a, b, ee⟩ := len2 hx; subst ee; rfl)
  case hB =>
    repeat' first
      | (with_reducible refine' s_nil)
      | (with_reducible refine' s_cons ?_ ?_)
      | (with_reducible refine' s_ret ?_)
      | ((with_reducible refine' e_name2 ?h1 ?h2); (case h1 | h2 => (intros; with_unfolding_all rfl)))
      | ((with_reducible refine' e_sub ?_ ?_ ?h1); (case h1 => (intros; with_unfolding_all rfl)))
      | ((with_reducible refine' e_attr ?_ ?h1); (case h1 => (intros; with_unfolding_all rfl)))
      | (with_reducible refine' a_nil)
      | ((with_reducible refine' a_cons ?_ ?_ ?h1); (case h1 => (intros; with_unfolding_all rfl)))
      | ((with_reducible refine' e_call ?hfe ?hC ?hm ?_ ?h1 ?h2); (case hfe => walk_at "mine callee"); (case hC => (first | exact c_abs)); (case hm => decide); (case h1 | h2 => (intros; with_unfolding_all rfl)))
  rintro args g P ⟨x, kd, rfl, hk, hP⟩
  refine ⟨rfl, ?_⟩
  walk_at "mine vc"
  obtain ⟨hl, he⟩ := List.getElem?_eq_some_iff.mp hk
  exact ⟨kd, by rw [ix_nat _ _ hl, he], hP⟩

noncomputable def S_parts (args : List V) (g : G) (P : V → G → Prop) : Prop := ∃ (x : Int) (ps : List Int), args = [.obj .circ, .int x] ∧ g.parts[x.natAbs]? = some ps ∧ P (.tup (ps.map .int)) g
theorem f_parts (c : Cx) : CallS c 1 (.ref 172) S_parts := by
  refine' callS_intro ?kk ?ho ?hcd ?hbind ?hkind ?hfree ?hco ?hgen ?hk ?hB ?hS
  case ho => (show (hd.heap_39 _).lookup _ = _; with_unfolding_all rfl)
  case hcd => kernel_rfl
  case hkind => rfl
  case hfree => rfl
  case hco => rfl
  case hgen => rfl
  case hk => rfl
  case kk => exact 2
  case hbind => (intro xs hx; obtain ⟨a, b, ee⟩ := len2 hx; subst ee; rfl)
  case hB =>
    repeat' first
      | (with_reducible refine' s_nil)
      | (with_reducible refine' s_cons ?_ ?_)
      | (with_reducible refine' s_ret ?_)
      | ((with_reducible refine' e_name2 ?h1 ?h2); (case h1 | h2 => (intros; with_unfolding_all rfl)))
      | ((with_reducible refine' e_sub ?_ ?_ ?h1); (case h1 => (intros; with_unfolding_all rfl)))
      | ((with_reducible refine' e_attr ?_ ?h1); (case h1 => (intros; with_unfolding_all rfl)))
      | (with_reducible refine' a_nil)
      | ((with_reducible refine' a_cons ?_ ?_ ?h1); (case h1 => (intros; with_unfolding_all rfl)))
      | ((with_reducible refine' e_call ?hfe ?hC ?hm ?_ ?h1 ?h2); (case hfe => walk_at "mine callee"); (case hC => (first | exact c_abs)); (case hm => decide); (case h1 | h2 => (intros; with_unfolding_all rfl)))
  rintro args g P ⟨x, ps, rfl, hk, hP⟩
  refine ⟨rfl, ?_⟩
  walk_at "mine vc"
  obtain ⟨hl, he⟩ := List.getElem?_eq_some_iff.mp hk
  exact ⟨ps, by rw [ix_nat _ _ hl, he], hP⟩

theorem lookup_mem : ∀ {l : List (List Int × Int)} {p : List Int} {n : Int}, l.lookup p = some n → (p, n) ∈ l
  | [], _, _, h => by simp at h
  | (q, k) :: l, p, n, h => by
    rw [List.lookup_cons] at h
    cases hb : p == q with
    | true => rw [hb] at h; cases h; rw [beq_iff_eq.mp hb]; exact List.mem_cons_self
    | false => rw [hb] at h; exact List.mem_cons_of_mem _ (lookup_mem h)

theorem inv_add {m : Nat} {g : G} (h : Inv m g) {ps : List Int} (hp : ∀ p ∈ ps, p ≠ 0 ∧ p.natAbs < g.kinds.length) :
    Inv m { g with kinds := g.kinds ++ [sAnd], parts := g.parts ++ [ps], known := g.known ++ [(ps, (g.kinds.length : Int))] } ∧ Ext g { g with kinds := g.kinds ++ [sAnd], parts := g.parts ++ [ps], known := g.known ++ [(ps, (g.kinds.length : Int))] } 1 := by
  have hb := h.big
  have kl : ∀ k, k < g.kinds.length → (g.kinds ++ [sAnd])[k]? = g.kinds[k]? := fun k hk => List.getElem?_append_left hk
  have pl : ∀ k, k < g.kinds.length → (g.parts ++ [ps])[k]? = g.parts[k]? := fun k hk => List.getElem?_append_left (by rw [h.len]; exact hk)
  have kn : (g.kinds ++ [sAnd])[g.kinds.length]? = some sAnd := by simp
  have pn : (g.parts ++ [ps])[g.kinds.length]? = some ps := by rw [← h.len]; simp
  refine ⟨?_, ⟨⟨[sAnd], rfl, Nat.le_refl _⟩, ⟨[ps], rfl⟩, rfl, rfl, rfl, rfl, rfl, rfl⟩⟩
  exact {
    len := by show (g.parts ++ [ps]).length = (g.kinds ++ [sAnd]).length; simp [h.len]
    big := by show m + 2 ≤ (g.kinds ++ [sAnd]).length; simp; lia
    p0 := ⟨(pl 0 (by lia)).trans h.p0.1, (kl 0 (by lia)).trans h.p0.2⟩
    p1 := ⟨(pl 1 (by lia)).trans h.p1.1, (kl 1 (by lia)).trans h.p1.2⟩
    inp := fun k h2 hk => ⟨(kl k (by lia)).trans (h.inp k h2 hk).1, (pl k (by lia)).trans (h.inp k h2 hk).2⟩
    gate := fun k h2 hk => by
      by_cases hlt : k < g.kinds.length
      · obtain ⟨a, q, b, d⟩ := h.gate k h2 hlt
        exact ⟨(kl k hlt).trans a, q, (pl k hlt).trans b, d⟩
      · have hk' : k < (g.kinds ++ [sAnd]).length := hk
        obtain rfl : k = g.kinds.length := by simp at hk'; lia
        exact ⟨kn, ps, pn, hp⟩
    known := fun p n hm => by
      rcases List.mem_append.mp hm with hm | hm
      · obtain ⟨k, e, k2, kk, a, b⟩ := h.known p n hm
        exact ⟨k, e, k2, by show k < (g.kinds ++ [sAnd]).length; simp; lia, (kl k kk).trans a, (pl k kk).trans b⟩
      · cases List.mem_singleton.mp hm
        exact ⟨g.kinds.length, rfl, by lia, by show g.kinds.length < (g.kinds ++ [sAnd]).length; simp, kn, pn⟩
    knlen := by show (g.known ++ [_]).length ≤ (g.kinds ++ [sAnd]).length; simp; exact h.knlen }

noncomputable def gateCap : Nat := 1000000
noncomputable def S_all_of (args : List V) (g : G) (P : V → G → Prop) : Prop := ∃ (m : Nat) (ns : List Int), (args = [.obj .circ, .tup (ns.map .int)] ∨ args = [.obj .circ, .lst (ns.map .int)]) ∧ Inv m g ∧ (∀ x ∈ ns, Gate g x) ∧ ns.length < 60 ∧ g.kinds.length + 1 ≤ gateCap ∧
  ∀ r g', Ext g g' 1 → Inv m g' → Gate g' r → (∀ row, lit g' row r = ns.all fun x => lit g' row x) → P (.int r) g'

theorem all_key {m : Nat} {g : G} (h : Inv m g) (row : Nat) {ns ks : List Int} (h1 : ∀ x ∈ ks, x ∈ ns) (h2 : ∀ x ∈ ns, x = 1 ∨ x ∈ ks) : (ks.all fun x => lit g row x) = ns.all fun x => lit g row x := by
  rw [Bool.eq_iff_iff, List.all_eq_true, List.all_eq_true]
  constructor
  · intro q x hx
    rcases h2 x hx with rfl | hk
    · exact lit_one h row
    · exact q x hk
  · exact fun q x hx => q x (h1 x hx)
theorem all_perm {g : G} (row : Nat) {ns ks : List Int} (h : ns.Perm ks) : (ns.all fun x => lit g row x) = ks.all fun x => lit g row x := by
  rw [Bool.eq_iff_iff, List.all_eq_true, List.all_eq_true]
  exact ⟨fun q x hx => q x (h.mem_iff.mpr hx), fun q x hx => q x (h.mem_iff.mp hx)⟩

theorem f_all_of (c : Cx) : CallS c 2 (.ref 193) S_all_of := by
  refine' callS_intro ?kk ?ho ?hcd ?hbind ?hkind ?hfree ?hco ?hgen ?hk ?hB ?hS
  case ho => (show (hd.heap_39 _).lookup _ = _; with_unfolding_all rfl)
  case hcd => kernel_rfl
  case hkind => rfl
  case hfree => rfl
  case hco => rfl
  case hgen => rfl
  case hk => rfl
  case kk => exact 2
  case hbind => (intro xs hx; obtain ⟨a, b, ee⟩ := len2 hx; subst ee; rfl)
  case hB =>
    repeat' first
      | (with_reducible refine' s_nil)
      | (with_reducible refine' s_cons ?_ ?_)
      | (with_reducible refine' s_ret ?_)
      | (with_reducible refine' s_if ?_ ?_ ?_)
      | ((with_reducible refine' s_owndct ?h1 ?h2); (case h1 => first | exact .inl rfl | exact .inr rfl); (case h2 => (intros; with_unfolding_all rfl)))
      | ((with_reducible refine' s_setdct ?_ ?h2 ?h3 ?h4); (case h2 | h3 | h4 => (intros; with_unfolding_all rfl)))
      | ((with_reducible refine' s_setobj ?_ ?_ ?_ ?h2); (case h2 => (intros; with_unfolding_all rfl)))
      | ((with_reducible refine' s_for ?ht ?_ ?_ ?h2); (case ht => walk_at "mine tgt"); (case h2 => (intros; with_unfolding_all rfl)))
      | (with_reducible refine' e_int)
      | (with_reducible refine' e_str)
      | ((with_reducible refine' e_name2 ?h1 ?h2); (case h1 | h2 => (intros; with_unfolding_all rfl)))
      | (with_reducible refine' e_if ?_ ?_ ?_)
      | (with_reducible refine' t_or ?_ ?_)
      | ((with_reducible refine' t_in ?_ ?h1 ?h2 ?h3); (case h1 | h2 | h3 => (intros; with_unfolding_all rfl)))
      | ((with_reducible refine' ot_c_lt ?_ ?_ ?h1); (case h1 => with_unfolding_all rfl))
      | ((with_reducible refine' ot_c_eq ?_ ?_ ?h1); (case h1 => with_unfolding_all rfl))
      | ((with_reducible refine' ot_c_ne ?_ ?_ ?h1); (case h1 => with_unfolding_all rfl))
      | ((with_reducible refine' ot_c_notIn ?_ ?_ ?h1); (case h1 => with_unfolding_all rfl))
      | (with_reducible refine' e_neg ?_)
      | ((with_reducible refine' e_subn ?_ ?h1 ?h2 ?h3); (case h1 | h2 | h3 => (intros; with_unfolding_all rfl)))
      | ((with_reducible refine' e_sub ?_ ?_ ?h1); (case h1 => (intros; with_unfolding_all rfl)))
      | ((with_reducible refine' e_attr ?_ ?h1); (case h1 => (intros; with_unfolding_all rfl)))
      | (with_reducible refine' a_nil)
      | ((with_reducible refine' a_cons ?_ ?_ ?h1); (case h1 => (intros; with_unfolding_all rfl)))
      | (with_reducible refine' i_val ?_)
      | ((with_reducible refine' e_sorted ?hfe ?h1 ?h2 ?h3 ?h4); (case hfe => walk_at "mine callee"); (case h1 | h2 | h3 | h4 => (intros; with_unfolding_all rfl)))
      | ((with_reducible refine' e_call ?hfe ?hC ?hm ?_ ?h1 ?h2); (case hfe => walk_at "mine callee"); (case hC => (first | exact c_tuple | exact c_len | exact f_new_gate _)); (case hm => decide); (case h1 | h2 => (intros; with_unfolding_all rfl)))
      | ((with_reducible refine' e_meth (k := .circ) ?_ ?hC ?hm ?_ ?h1 ?h2 ?h3 ?h4 ?h5 ?h6); (case h1 => with_unfolding_all rfl); (case hC => (first | exact c_tuple | exact c_len | exact f_new_gate _)); (case hm => decide); (case h2 => kernel_rfl); (case h3 => kernel_rfl); (case h4 | h5 | h6 => (intros; with_unfolding_all rfl)))
      | ((with_reducible refine' s_asgn ?_ ?h1 ?h2); (case h1 => first | exact .inl rfl | exact .inr rfl); (case h2 => walk_at "mine plain"))
  rintro args g P ⟨m, ns, ha, hI, hg, hlen, hcap, hP⟩
  refine ⟨by rcases ha with rfl | rfl <;> rfl, ?_⟩
  rcases ha with rfl | rfl
  all_goals
    walk_at "mine vc"
    intro a
    walk_at "mine vc"
    refine forT_inv (fun rest st => ∃ pre rem ks, rest = rem.map (fun x => It.one (.int x)) ∧ ns = pre ++ rem ∧ st.own = .dct (Str.ofString "found") a ks ∧ (∀ x ∈ ks, x ∈ pre) ∧ (∀ x ∈ pre, x = 1 ∨ x ∈ ks) ∧ ks.length ≤ pre.length ∧ st.loc (Str.ofString "self") = some (.obj .circ) ∧ st.g = g) ?_ ?_ _ _ ?_
    · rintro it r st rec hrec ⟨pre, rem, ks, he, hns, ho, h1, h2, h3, hs, hgg⟩
      cases rem with
      | nil => cases he
      | cons x rem =>
        cases he
        have hx : Gate g x := hg x (by rw [hns]; simp)
        have base : (st.set (Str.ofString "g") (.int x)).own = .dct (Str.ofString "found") a ks := by
          rw [v_set_own, ho]; simp (decide := true) only [v_at_dct, if_false]
        have bs : (st.set (Str.ofString "g") (.int x)).loc (Str.ofString "self") = some (.obj .circ) := by
          simp (decide := true) only [v_set_loc, if_false]; exact hs
        have bg : (st.set (Str.ofString "g") (.int x)).loc (Str.ofString "g") = some (.int x) := by
          simp (decide := true) only [v_set_loc, if_true]
        have bG : (st.set (Str.ofString "g") (.int x)).g = g := hgg
        have bad : ∀ row, (ns.all fun x => lit g row x) = false → P (.int (-1)) g → True := fun _ _ _ => trivial
        have neg1 : (∀ row, (ns.all fun x => lit g row x) = false) → P (.int (-1)) g := fun q =>
          hP (-1) g ((Ext.refl g).le (by lia)) hI (gate_mone hI) fun row => by rw [lit_mone hI, q row]
        show (fun st1 => _) (st.set (Str.ofString "g") (.int x))
        generalize st.set (Str.ofString "g") (.int x) = st1 at base bs bg bG ⊢
        dsimp only
        repeat walk_at "mine go"
        simp only [v_name, bg, v_nameK, v_onInt, v_eq, v_onBool]
        by_cases hx1 : x = -1
        · rw [decide_eq_true hx1]
          walk_at "mine vc"
          simp only [bG]
          refine neg1 fun row => ?_
          rw [List.all_eq_false]
          exact ⟨x, by rw [hns]; simp, by rw [hx1, lit_mone hI]; simp⟩
        · rw [decide_eq_false hx1]
          simp only [v_in, v_name, bg, v_nameK, v_onInt, v_inOwn, base, v_inO, if_true, true_and]
          by_cases hx2 : -x ∈ ks
          · rw [decide_eq_true hx2]
            walk_at "mine vc"
            simp only [bG]
            refine neg1 fun row => ?_
            rw [List.all_eq_false]
            cases hl : lit g row x with
            | false => exact ⟨x, by rw [hns]; simp, by rw [hl]; simp⟩
            | true => exact ⟨-x, by rw [hns]; exact List.mem_append_left _ (h1 _ hx2), by rw [lit_neg hI hx, hl]; simp⟩
          · rw [decide_eq_false hx2]
            dsimp only
            repeat walk_at "mine go"
            repeat walk_at "mine go"
            simp only [v_name, bg, v_nameK, v_onInt, v_ne, v_onBool]
            by_cases hx3 : x = 1
            · rw [decide_eq_true hx3]
              walk_at "mine vc"
              refine hrec _ ⟨pre ++ [x], rem, ks, rfl, by rw [hns]; simp, base, fun y hy => List.mem_append_left _ (h1 y hy), fun y hy => ?_, by simp; lia, bs, bG⟩
              rcases List.mem_append.mp hy with hy | hy
              · exact h2 y hy
              · exact .inl ((List.mem_singleton.mp hy).trans hx3)
            · rw [decide_eq_false hx3]
              simp only [Bool.not_false]
              repeat walk_at "mine go"
              simp only [v_setdct, base, v_setO, if_true, v_name, bg, v_nameK, v_onInt, true_and]
              have hks : ks.length < 60 := by
                have : pre.length ≤ ns.length := by rw [hns]; simp
                lia
              refine ⟨by show _ ≤ 16777216; lia, ?_⟩
              walk_at "mine vc"
              refine hrec _ ⟨pre ++ [x], rem, addKey ks x, rfl, by rw [hns]; simp, rfl, fun y hy => ?_, fun y hy => ?_, ?_, bs, bG⟩
              · unfold addKey at hy
                split at hy
                · exact List.mem_append_left _ (h1 y hy)
                · rcases List.mem_append.mp hy with hy | hy
                  · exact List.mem_append_left _ (h1 y hy)
                  · exact List.mem_append_right _ hy
              · unfold addKey
                rcases List.mem_append.mp hy with hy | hy
                · rcases h2 y hy with e | e
                  · exact .inl e
                  · right; split
                    · exact e
                    · exact List.mem_append_left _ e
                · right; split
                  · rw [List.mem_singleton.mp hy]; assumption
                  · exact List.mem_append_right _ hy
              · unfold addKey
                split <;> simp <;> lia
    · rintro st ⟨pre, rem, ks, he, hns, ho, h1, h2, h3, hs, hgg⟩
      have hrem : rem = [] := by cases rem with
        | nil => rfl
        | cons _ _ => cases he
      subst hrem
      rw [List.append_nil] at hns
      subst hns
      repeat walk_at "mine go"
      simp only [v_sorted, ho, v_sortO, if_true, true_and]
      refine ⟨by lia, fun ks' hperm hsort => ?_⟩
      have hk' : ks'.length < 60 := by rw [hperm.length_eq]; lia
      have sem : ∀ {g' : G} {n : Nat}, Inv m g' → Ext g g' n → ∀ row, (ks'.all fun x => lit g' row x) = ns.all fun x => lit g' row x := fun hI' he row => by
        rw [all_perm row hperm]; exact all_key hI' row h1 h2
      have kg : ∀ p ∈ ks', Gate g p := fun p hp => hg p (h1 p (hperm.mem_iff.mp hp))
      walk_at "mine vc"
      simp only [hs, hgg, ho, v_at_dct, v_nameK, List.length_map]
      walk_at "mine vc"
      by_cases hl2 : ((ks'.length : Nat) : Int) < 2
      · rw [decide_eq_true hl2]
        walk_at "mine vc"
        simp only [List.length_map]
        by_cases hl1 : ((ks'.length : Nat) : Int) = 1
        · rw [decide_eq_true hl1]
          obtain ⟨p, rfl⟩ : ∃ p, ks' = [p] := List.length_eq_one_iff.mp (by lia)
          refine ⟨.int p, rfl, ?_⟩
          refine hP p g ((Ext.refl g).le (by lia)) hI (kg p (by simp)) fun row => ?_
          rw [← sem hI (Ext.refl g) row]; simp
        · rw [decide_eq_false hl1]
          have : ks' = [] := by
            cases ks' with
            | nil => rfl
            | cons _ r => simp at hl1 hl2; lia
          subst this
          refine hP 1 g ((Ext.refl g).le (by lia)) hI (gate_one hI) fun row => ?_
          rw [← sem hI (Ext.refl g) row, lit_one hI]; simp
      · rw [decide_eq_false hl2]
        walk_at "mine vc"
        simp only [hs, v_nameK]
        walk_at "mine vc"
        have hz : sizeLine = 16777216 := rfl
        have hzc : gateCap = 1000000 := rfl
        have hlen' := hI.len
        have hkl := hI.knlen
        have hps : ∀ p ∈ ks', p ≠ 0 ∧ p.natAbs < g.kinds.length := fun p hp => kg p hp
        simp only [v_nik rfl, v_onBool]
        cases hlk : g.known.lookup ks' with
        | some n =>
          simp only [Option.isSome_some, Bool.not_true]
          walk_at "mine vc"
          simp only [hs, v_nameK]
          walk_at "mine vc"
          simp only [v_sub_known rfl, hlk]
          refine ⟨n, rfl, ?_⟩
          obtain ⟨k, rfl, k2, kk, ka, kp⟩ := hI.known ks' n (lookup_mem hlk)
          refine hP _ g ((Ext.refl g).le (by lia)) hI ⟨by lia, by rw [Int.natAbs_natCast]; exact kk⟩ fun row => ?_
          have hpk : ∀ p ∈ ks', p.natAbs < k := by
            have hm2 : m + 2 ≤ k := by
              apply Nat.le_of_not_lt
              intro hlt
              have := (hI.inp k k2 hlt).1
              rw [ka] at this
              exact absurd this (by decide)
            obtain ⟨_, q, hq, hq2⟩ := hI.gate k hm2 kk
            rw [kp] at hq; cases hq
            exact fun p hp => (hq2 p hp).2
          rw [lit_and hI ka kp k2 hpk, sem hI (Ext.refl g) row]
        | none =>
          simp only [Option.isSome_none, Bool.not_false]
          walk_at "mine vc"
          simp only [hs, v_nameK]
          walk_at "mine vc"
          refine ⟨sAnd, ks', rfl, by lia, by lia, ?_⟩
          simp only [hs, v_nameK]
          walk_at "mine vc"
          refine ⟨ks', rfl, hlk, by lia, ?_⟩
          walk_at "mine vc"
          simp only [hs, v_nameK]
          walk_at "mine vc"
          have hne : (g.known ++ [(ks', ((g.kinds.length : Nat) : Int))]).lookup ks' = some ((g.kinds.length : Nat) : Int) := by
            rw [List.lookup_append, hlk]; simp
          simp only [v_sub_known rfl, hne]
          refine ⟨_, rfl, ?_⟩
          obtain ⟨hI', hE⟩ := inv_add hI hps
          have hb := hI.big
          refine hP _ _ hE hI' ⟨by lia, by show (((g.kinds.length : Nat) : Int)).natAbs < (g.kinds ++ [sAnd]).length; simp⟩ fun row => ?_
          rw [lit_and hI' (k := g.kinds.length) (ps := ks') (by show (g.kinds ++ [sAnd])[g.kinds.length]? = _; simp) (by show (g.parts ++ [ks'])[g.kinds.length]? = _; rw [← hlen']; simp) (by lia) (fun p hp => (hps p hp).2), sem hI' hE row]
    · refine ⟨[], ns, [], by rw [List.map_map]; rfl, rfl, rfl, by simp, by simp, by simp, rfl, rfl⟩

noncomputable def S_two (f : Bool → Bool → Bool) (n : Nat) (args : List V) (g : G) (P : V → G → Prop) : Prop := ∃ (m : Nat) (a b : Int), args = [.obj .circ, .int a, .int b] ∧ Inv m g ∧ Gate g a ∧ Gate g b ∧ g.kinds.length + n ≤ gateCap ∧
  ∀ r g', Ext g g' n → Inv m g' → Gate g' r → (∀ row, lit g' row r = f (lit g' row a) (lit g' row b)) → P (.int r) g'

theorem f_both (c : Cx) : CallS c 3 (.ref 207) (S_two (fun a b => a && b) 1) := by
  refine' callS_intro ?kk ?ho ?hcd ?hbind ?hkind ?hfree ?hco ?hgen ?hk ?hB ?hS
  case ho => (show (hd.heap_39 _).lookup _ = _; with_unfolding_all rfl)
  case hcd => kernel_rfl
  case hkind => rfl
  case hfree => rfl
  case hco => rfl
  case hgen => rfl
  case hk => rfl
  case kk => exact 3
  case hbind => (intro xs hx; obtain ⟨a, b, d, ee⟩ := len3 hx; subst ee; rfl)
  case hB =>
    repeat' first
      | (with_reducible refine' s_nil)
      | (with_reducible refine' s_cons ?_ ?_)
      | (with_reducible refine' s_ret ?_)
      | ((with_reducible refine' e_name2 ?h1 ?h2); (case h1 | h2 => (intros; with_unfolding_all rfl)))
      | (with_reducible refine' a_nil)
      | ((with_reducible refine' a_cons ?_ ?_ ?h1); (case h1 => (intros; with_unfolding_all rfl)))
      | (with_reducible refine' e_tup ?_)
      | ((with_reducible refine' e_meth (k := .circ) ?_ ?hC ?hm ?_ ?h1 ?h2 ?h3 ?h4 ?h5 ?h6); (case h1 => with_unfolding_all rfl); (case hC => (first | exact f_all_of _)); (case hm => decide); (case h2 => kernel_rfl); (case h3 => kernel_rfl); (case h4 | h5 | h6 => (intros; with_unfolding_all rfl)))
  rintro args g P ⟨m, a, b, rfl, hI, ha, hb, hcap, hP⟩
  refine ⟨rfl, ?_⟩
  walk_at "mine vc"
  refine ⟨by show 2 ≤ 16777216; lia, m, [a, b], .inl rfl, hI, by simp [ha, hb], by simp, hcap, fun r g' hE hI' hr hl => ?_⟩
  exact hP r g' hE hI' hr fun row => by rw [hl row]; simp

theorem f_either (c : Cx) : CallS c 3 (.ref 214) (S_two (fun a b => a || b) 1) := by
  refine' callS_intro ?kk ?ho ?hcd ?hbind ?hkind ?hfree ?hco ?hgen ?hk ?hB ?hS
  case ho => (show (hd.heap_39 _).lookup _ = _; with_unfolding_all rfl)
  case hcd => kernel_rfl
  case hkind => rfl
  case hfree => rfl
  case hco => rfl
  case hgen => rfl
  case hk => rfl
  case kk => exact 3
  case hbind => (intro xs hx; obtain ⟨a, b, d, ee⟩ := len3 hx; subst ee; rfl)
  case hB =>
    repeat' first
      | (with_reducible refine' s_nil)
      | (with_reducible refine' s_cons ?_ ?_)
      | (with_reducible refine' s_ret ?_)
      | ((with_reducible refine' e_name2 ?h1 ?h2); (case h1 | h2 => (intros; with_unfolding_all rfl)))
      | (with_reducible refine' e_neg ?_)
      | (with_reducible refine' a_nil)
      | ((with_reducible refine' a_cons ?_ ?_ ?h1); (case h1 => (intros; with_unfolding_all rfl)))
      | (with_reducible refine' e_tup ?_)
      | ((with_reducible refine' e_meth (k := .circ) ?_ ?hC ?hm ?_ ?h1 ?h2 ?h3 ?h4 ?h5 ?h6); (case h1 => with_unfolding_all rfl); (case hC => (first | exact f_all_of _)); (case hm => decide); (case h2 => kernel_rfl); (case h3 => kernel_rfl); (case h4 | h5 | h6 => (intros; with_unfolding_all rfl)))
  rintro args g P ⟨m, a, b, rfl, hI, ha, hb, hcap, hP⟩
  refine ⟨rfl, ?_⟩
  walk_at "mine vc"
  refine ⟨by show 2 ≤ 16777216; lia, m, [-a, -b], .inl rfl, hI, by simp [ha.neg, hb.neg], by simp, hcap, fun r g' hE hI' hr hl => ?_⟩
  walk_at "mine vc"
  refine hP _ g' hE hI' hr.neg fun row => ?_
  rw [lit_neg hI' hr, hl row]
  simp [lit_neg hI' (ha.ext hE), lit_neg hI' (hb.ext hE)]

theorem f_implies (c : Cx) : CallS c 3 (.ref 221) (S_two (fun a b => !a || b) 1) := by
  refine' callS_intro ?kk ?ho ?hcd ?hbind ?hkind ?hfree ?hco ?hgen ?hk ?hB ?hS
  case ho => (show (hd.heap_39 _).lookup _ = _; with_unfolding_all rfl)
  case hcd => kernel_rfl
  case hkind => rfl
  case hfree => rfl
  case hco => rfl
  case hgen => rfl
  case hk => rfl
  case kk => exact 3
  case hbind => (intro xs hx; obtain ⟨a, b, d, ee⟩ := len3 hx; subst ee; rfl)
  case hB =>
    repeat' first
      | (with_reducible refine' s_nil)
      | (with_reducible refine' s_cons ?_ ?_)
      | (with_reducible refine' s_ret ?_)
      | ((with_reducible refine' e_name2 ?h1 ?h2); (case h1 | h2 => (intros; with_unfolding_all rfl)))
      | (with_reducible refine' e_neg ?_)
      | (with_reducible refine' a_nil)
      | ((with_reducible refine' a_cons ?_ ?_ ?h1); (case h1 => (intros; with_unfolding_all rfl)))
      | (with_reducible refine' e_tup ?_)
      | ((with_reducible refine' e_meth (k := .circ) ?_ ?hC ?hm ?_ ?h1 ?h2 ?h3 ?h4 ?h5 ?h6); (case h1 => with_unfolding_all rfl); (case hC => (first | exact f_all_of _)); (case hm => decide); (case h2 => kernel_rfl); (case h3 => kernel_rfl); (case h4 | h5 | h6 => (intros; with_unfolding_all rfl)))
  rintro args g P ⟨m, a, b, rfl, hI, ha, hb, hcap, hP⟩
  refine ⟨rfl, ?_⟩
  walk_at "mine vc"
  refine ⟨by show 2 ≤ 16777216; lia, m, [a, -b], .inl rfl, hI, by simp [ha, hb.neg], by simp, hcap, fun r g' hE hI' hr hl => ?_⟩
  walk_at "mine vc"
  refine hP _ g' hE hI' hr.neg fun row => ?_
  rw [lit_neg hI' hr, hl row]
  simp [lit_neg hI' (hb.ext hE)]

theorem f_iff (c : Cx) : CallS c 4 (.ref 228) (S_two (fun a b => a == b) 3) := by
  refine' callS_intro ?kk ?ho ?hcd ?hbind ?hkind ?hfree ?hco ?hgen ?hk ?hB ?hS
  case ho => (show (hd.heap_39 _).lookup _ = _; with_unfolding_all rfl)
  case hcd => kernel_rfl
  case hkind => rfl
  case hfree => rfl
  case hco => rfl
  case hgen => rfl
  case hk => rfl
  case kk => exact 3
  case hbind => (intro xs hx; obtain ⟨a, b, d, ee⟩ := len3 hx; subst ee; rfl)
  case hB =>
    repeat' first
      | (with_reducible refine' s_nil)
      | (with_reducible refine' s_cons ?_ ?_)
      | (with_reducible refine' s_ret ?_)
      | ((with_reducible refine' e_name2 ?h1 ?h2); (case h1 | h2 => (intros; with_unfolding_all rfl)))
      | (with_reducible refine' a_nil)
      | ((with_reducible refine' a_cons ?_ ?_ ?h1); (case h1 => (intros; with_unfolding_all rfl)))
      | (with_reducible refine' e_tup ?_)
      | ((with_reducible refine' e_meth (k := .circ) ?_ ?hC ?hm ?_ ?h1 ?h2 ?h3 ?h4 ?h5 ?h6); (case h1 => with_unfolding_all rfl); (case hC => (first | exact f_all_of _ | exact f_implies _)); (case hm => decide); (case h2 => kernel_rfl); (case h3 => kernel_rfl); (case h4 | h5 | h6 => (intros; with_unfolding_all rfl)))
  rintro args g P ⟨m, a, b, rfl, hI, ha, hb, hcap, hP⟩
  refine ⟨rfl, ?_⟩
  walk_at "mine vc"
  refine ⟨m, a, b, rfl, hI, ha, hb, by lia, fun r1 g1 hE1 hI1 hr1 hl1 => ?_⟩
  walk_at "mine vc"
  have c1 := hE1.len
  refine ⟨m, b, a, rfl, hI1, hb.ext hE1, ha.ext hE1, by lia, fun r2 g2 hE2 hI2 hr2 hl2 => ?_⟩
  walk_at "mine vc"
  have c2 := hE2.len
  refine ⟨by show 2 ≤ 16777216; lia, m, [r1, r2], .inl rfl, hI2, by simp [hr1.ext hE2, hr2], by simp, by lia, fun r g' hE hI' hr hl => ?_⟩
  refine hP r g' ((hE1.trans hE2).trans hE) hI' hr fun row => ?_
  rw [hl row]
  have a1 := lit_ext hI1 (hE2.trans hE) hr1 row
  have a2 := lit_ext hI2 hE hr2 row
  have b1 := lit_ext hI1 (hE2.trans hE) (ha.ext hE1) row
  have b2 := lit_ext hI1 (hE2.trans hE) (hb.ext hE1) row
  have d1 := lit_ext hI2 hE ((ha.ext hE1).ext hE2) row
  have d2 := lit_ext hI2 hE ((hb.ext hE1).ext hE2) row
  simp only [List.all_cons, List.all_nil, Bool.and_true]
  rw [a1, a2, hl1 row, hl2 row, ← b1, ← b2, ← d1, ← d2]
  cases lit g' row a <;> cases lit g' row b <;> rfl

theorem f_unlike (c : Cx) : CallS c 5 (.ref 235) (S_two (fun a b => a != b) 3) := by
  refine' callS_intro ?kk ?ho ?hcd ?hbind ?hkind ?hfree ?hco ?hgen ?hk ?hB ?hS
  case ho => (show (hd.heap_39 _).lookup _ = _; with_unfolding_all rfl)
  case hcd => kernel_rfl
  case hkind => rfl
  case hfree => rfl
  case hco => rfl
  case hgen => rfl
  case hk => rfl
  case kk => exact 3
  case hbind => (intro xs hx; obtain ⟨a, b, d, ee⟩ := len3 hx; subst ee; rfl)
  case hB =>
    repeat' first
      | (with_reducible refine' s_nil)
      | (with_reducible refine' s_cons ?_ ?_)
      | (with_reducible refine' s_ret ?_)
      | ((with_reducible refine' e_name2 ?h1 ?h2); (case h1 | h2 => (intros; with_unfolding_all rfl)))
      | (with_reducible refine' e_neg ?_)
      | (with_reducible refine' a_nil)
      | ((with_reducible refine' a_cons ?_ ?_ ?h1); (case h1 => (intros; with_unfolding_all rfl)))
      | ((with_reducible refine' e_meth (k := .circ) ?_ ?hC ?hm ?_ ?h1 ?h2 ?h3 ?h4 ?h5 ?h6); (case h1 => with_unfolding_all rfl); (case hC => (first | exact f_iff _)); (case hm => decide); (case h2 => kernel_rfl); (case h3 => kernel_rfl); (case h4 | h5 | h6 => (intros; with_unfolding_all rfl)))
  rintro args g P ⟨m, a, b, rfl, hI, ha, hb, hcap, hP⟩
  refine ⟨rfl, ?_⟩
  walk_at "mine vc"
  refine ⟨m, a, b, rfl, hI, ha, hb, hcap, fun r g' hE hI' hr hl => ?_⟩
  walk_at "mine vc"
  refine hP _ g' hE hI' hr.neg fun row => ?_
  rw [lit_neg hI' hr, hl row]; rfl

noncomputable def S_choose (args : List V) (g : G) (P : V → G → Prop) : Prop := ∃ (m : Nat) (t a b : Int), args = [.obj .circ, .int t, .int a, .int b] ∧ Inv m g ∧ Gate g t ∧ Gate g a ∧ Gate g b ∧ g.kinds.length + 3 ≤ gateCap ∧
  ∀ r g', Ext g g' 3 → Inv m g' → Gate g' r → (∀ row, lit g' row r = if lit g' row t = true then lit g' row a else lit g' row b) → P (.int r) g'
theorem f_choose (c : Cx) : CallS c 4 (.ref 242) S_choose := by
  refine' callS_intro ?kk ?ho ?hcd ?hbind ?hkind ?hfree ?hco ?hgen ?hk ?hB ?hS
  case ho => (show (hd.heap_39 _).lookup _ = _; with_unfolding_all rfl)
  case hcd => kernel_rfl
  case hkind => rfl
  case hfree => rfl
  case hco => rfl
  case hgen => rfl
  case hk => rfl
  case kk => exact 4
  case hbind => (intro xs hx; obtain ⟨a, b, d, e, ee⟩ := len4 hx; subst ee; rfl)
  case hB =>
    repeat' first
      | (with_reducible refine' s_nil)
      | (with_reducible refine' s_cons ?_ ?_)
      | (with_reducible refine' s_ret ?_)
      | ((with_reducible refine' e_name2 ?h1 ?h2); (case h1 | h2 => (intros; with_unfolding_all rfl)))
      | (with_reducible refine' e_neg ?_)
      | (with_reducible refine' a_nil)
      | ((with_reducible refine' a_cons ?_ ?_ ?h1); (case h1 => (intros; with_unfolding_all rfl)))
      | (with_reducible refine' e_tup ?_)
      | ((with_reducible refine' e_meth (k := .circ) ?_ ?hC ?hm ?_ ?h1 ?h2 ?h3 ?h4 ?h5 ?h6); (case h1 => with_unfolding_all rfl); (case hC => (first | exact f_all_of _ | exact f_implies _)); (case hm => decide); (case h2 => kernel_rfl); (case h3 => kernel_rfl); (case h4 | h5 | h6 => (intros; with_unfolding_all rfl)))
  rintro args g P ⟨m, t, a, b, rfl, hI, ht, ha, hb, hcap, hP⟩
  refine ⟨rfl, ?_⟩
  walk_at "mine vc"
  refine ⟨m, t, a, rfl, hI, ht, ha, by lia, fun r1 g1 hE1 hI1 hr1 hl1 => ?_⟩
  walk_at "mine vc"
  have c1 := hE1.len
  refine ⟨m, -t, b, rfl, hI1, (ht.ext hE1).neg, hb.ext hE1, by lia, fun r2 g2 hE2 hI2 hr2 hl2 => ?_⟩
  walk_at "mine vc"
  have c2 := hE2.len
  refine ⟨by show 2 ≤ 16777216; lia, m, [r1, r2], .inl rfl, hI2, by simp [hr1.ext hE2, hr2], by simp, by lia, fun r g' hE hI' hr hl => ?_⟩
  refine hP r g' ((hE1.trans hE2).trans hE) hI' hr fun row => ?_
  rw [hl row]
  have a1 := lit_ext hI1 (hE2.trans hE) hr1 row
  have a2 := lit_ext hI2 hE hr2 row
  have b1 := lit_ext hI1 (hE2.trans hE) (ht.ext hE1) row
  have b2 := lit_ext hI1 (hE2.trans hE) (ha.ext hE1) row
  have d1 := lit_ext hI2 hE ((ht.ext hE1).ext hE2) row
  have d2 := lit_ext hI2 hE ((hb.ext hE1).ext hE2) row
  simp only [List.all_cons, List.all_nil, Bool.and_true]
  rw [a1, a2, hl1 row, hl2 row, lit_neg hI2 ((ht.ext hE1).ext hE2), ← b1, ← b2, ← d1, ← d2]
  cases lit g' row t <;> cases lit g' row a <;> cases lit g' row b <;> rfl

noncomputable def b2i (b : Bool) : Int := if b = true then 1 else 0
/-- two's complement: the bits i .. i+k of f, bit i+k the sign -/
noncomputable def T (f : Nat → Bool) : Nat → Nat → Int
  | i, 0 => - b2i (f i)
  | i, k + 1 => b2i (f i) + 2 * T f (i + 1) k

theorem T_congr {f f' : Nat → Bool} : ∀ (k i : Nat), (∀ j, i ≤ j → j ≤ i + k → f j = f' j) → T f i k = T f' i k
  | 0, i, h => by unfold T; rw [h i (Nat.le_refl _) (by lia)]
  | k + 1, i, h => by unfold T; rw [h i (Nat.le_refl _) (by lia), T_congr k (i + 1) fun j h1 h2 => h j (by lia) (by lia)]
theorem T_trim {f : Nat → Bool} : ∀ (k i : Nat), f (i + k + 1) = f (i + k) → T f i (k + 1) = T f i k
  | 0, i, h => by
    show b2i (f i) + 2 * (- b2i (f (i + 1))) = - b2i (f i)
    rw [show f (i + 1) = f i from h]; lia
  | k + 1, i, h => by
    show b2i (f i) + 2 * T f (i + 1) (k + 1) = b2i (f i) + 2 * T f (i + 1) k
    rw [T_trim k (i + 1) (by rw [show i + 1 + k + 1 = i + (k + 1) + 1 by lia, show i + 1 + k = i + (k + 1) by lia]; exact h)]
theorem T_trims {f : Nat → Bool} (k : Nat) : ∀ (n : Nat), (∀ j, k ≤ j → j ≤ k + n → f j = f k) → T f 0 (k + n) = T f 0 k
  | 0, _ => rfl
  | n + 1, h => by
    show T f 0 (k + n + 1) = _
    rw [T_trim (k + n) 0 (by rw [Nat.zero_add, h (k + n + 1) (by lia) (by lia), h (k + n) (by lia) (by lia)])]
    exact T_trims k n fun j h1 h2 => h j h1 (by lia)
theorem T_add {fa fb c s : Nat → Bool} (hs : ∀ j, s j = ((fa j != fb j) != c j)) (hc : ∀ j, c (j + 1) = (fa j && fb j || (fa j != fb j) && c j)) :
    ∀ (k i : Nat), fa (i + k + 1) = fa (i + k) → fb (i + k + 1) = fb (i + k) → T s i (k + 1) = T fa i (k + 1) + T fb i (k + 1) + b2i (c i)
  | 0, i, ha, hb => by
    show b2i (s i) + 2 * (- b2i (s (i + 1))) = b2i (fa i) + 2 * (- b2i (fa (i + 1))) + (b2i (fb i) + 2 * (- b2i (fb (i + 1)))) + b2i (c i)
    rw [hs i, hs (i + 1), hc i, show fa (i + 1) = fa i from ha, show fb (i + 1) = fb i from hb]
    cases fa i <;> cases fb i <;> cases c i <;> rfl
  | k + 1, i, ha, hb => by
    show b2i (s i) + 2 * T s (i + 1) (k + 1) = b2i (fa i) + 2 * T fa (i + 1) (k + 1) + (b2i (fb i) + 2 * T fb (i + 1) (k + 1)) + b2i (c i)
    rw [T_add hs hc k (i + 1) (by rw [show i + 1 + k + 1 = i + (k + 1) + 1 by lia, show i + 1 + k = i + (k + 1) by lia]; exact ha) (by rw [show i + 1 + k + 1 = i + (k + 1) + 1 by lia, show i + 1 + k = i + (k + 1) by lia]; exact hb), hs i, hc i]
    cases fa i <;> cases fb i <;> cases c i <;> simp [b2i] <;> lia
theorem T_neg {f : Nat → Bool} : ∀ (k i : Nat), T (fun j => !f j) i k = - T f i k - 1
  | 0, i => by show - b2i (!f i) = - (- b2i (f i)) - 1; cases f i <;> rfl
  | k + 1, i => by
    show b2i (!f i) + 2 * T (fun j => !f j) (i + 1) k = - (b2i (f i) + 2 * T f (i + 1) k) - 1
    rw [T_neg k (i + 1)]
    cases f i <;> simp [b2i] <;> lia
theorem T_bound {f : Nat → Bool} : ∀ (k i : Nat), - 2 ^ k ≤ T f i k ∧ T f i k < 2 ^ k
  | 0, i => by show - 1 ≤ - b2i (f i) ∧ - b2i (f i) < 1; cases f i <;> simp [b2i]
  | k + 1, i => by
    obtain ⟨h1, h2⟩ := T_bound (f := f) k (i + 1)
    show - 2 ^ (k + 1) ≤ b2i (f i) + 2 * T f (i + 1) k ∧ b2i (f i) + 2 * T f (i + 1) k < 2 ^ (k + 1)
    rw [Int.pow_succ]
    cases f i <;> simp [b2i] <;> lia
/-- the sign bit is the sign -/
theorem T_sign {f : Nat → Bool} : ∀ (k i : Nat), f (i + k) = decide (T f i k < 0)
  | 0, i => by show f i = decide (- b2i (f i) < 0); cases f i <;> simp [b2i]
  | k + 1, i => by
    have := T_sign (f := f) k (i + 1)
    rw [show i + (k + 1) = i + 1 + k by lia, this]
    show decide (T f (i + 1) k < 0) = decide (b2i (f i) + 2 * T f (i + 1) k < 0)
    rw [decide_eq_decide]
    cases f i <;> simp [b2i] <;> lia
/-- equal numbers of one width have equal bits -/
theorem T_inj {f f' : Nat → Bool} : ∀ (k i : Nat), T f i k = T f' i k → ∀ j, i ≤ j → j ≤ i + k → f j = f' j
  | 0, i, h, j, h1, h2 => by
    obtain rfl : j = i := by lia
    have h' : - b2i (f j) = - b2i (f' j) := h
    cases hf : f j <;> cases hf' : f' j <;> simp [hf, hf', b2i] at h' ⊢
  | k + 1, i, h, j, h1, h2 => by
    have h' : b2i (f i) + 2 * T f (i + 1) k = b2i (f' i) + 2 * T f' (i + 1) k := h
    have h0 : f i = f' i := by cases hf : f i <;> cases hf' : f' i <;> simp [hf, hf', b2i] at h' ⊢ <;> lia
    by_cases hj : j = i
    · rw [hj]; exact h0
    · rw [h0] at h'
      exact T_inj k (i + 1) (by lia) j (by lia) (by lia)

noncomputable def Num (g : G) (ns : List Int) : Prop := ns ≠ [] ∧ ∀ x ∈ ns, Gate g x
noncomputable def bitOf (g : G) (row : Nat) (ns : List Int) (j : Nat) : Bool := lit g row (place ns j)
noncomputable def num (g : G) (row : Nat) (ns : List Int) : Int := T (bitOf g row ns) 0 (ns.length - 1)

theorem place_mem {ns : List Int} (h : ns ≠ []) (j : Nat) : place ns j ∈ ns := by
  unfold place
  rw [List.getD_eq_getElem?_getD]
  by_cases hj : j < ns.length
  · simp [hj]
  · rw [List.getElem?_eq_none (by lia), Option.getD_none, List.getLastD_eq_getLast?, List.getLast?_eq_some_getLast h]
    exact List.getLast_mem h
theorem place_lt {ns : List Int} {j : Nat} (hj : j < ns.length) : place ns j = ns[j] := by simp [place, List.getD_eq_getElem?_getD, hj]
theorem place_ge {ns : List Int} {j : Nat} (h : ns ≠ []) (hj : ns.length - 1 ≤ j) : place ns j = ns.getLast h := by
  by_cases hl : j < ns.length
  · rw [place_lt hl, List.getLast_eq_getElem]
    have : j = ns.length - 1 := by lia
    subst this; rfl
  · unfold place
    rw [List.getD_eq_getElem?_getD, List.getElem?_eq_none (by lia), Option.getD_none, List.getLastD_eq_getLast?, List.getLast?_eq_some_getLast h]; rfl
theorem Num.ext {a b : G} {n : Nat} {ns : List Int} (h : Num a ns) (e : Ext a b n) : Num b ns := ⟨h.1, fun x hx => (h.2 x hx).ext e⟩
theorem bit_ext {m : Nat} {g g' : G} {n : Nat} {ns : List Int} (h : Inv m g) (e : Ext g g' n) (hn : Num g ns) (row j : Nat) : bitOf g' row ns j = bitOf g row ns j := lit_ext h e (hn.2 _ (place_mem hn.1 j)) row
theorem num_ext {m : Nat} {g g' : G} {n : Nat} {ns : List Int} (h : Inv m g) (e : Ext g g' n) (hn : Num g ns) (row : Nat) : num g' row ns = num g row ns := T_congr _ _ fun j _ _ => bit_ext h e hn row j
/-- a number read at any greater width -/
theorem num_wide {g : G} {ns : List Int} (h : ns ≠ []) (row k : Nat) (hk : ns.length - 1 ≤ k) : T (bitOf g row ns) 0 k = num g row ns := by
  obtain ⟨n, rfl⟩ : ∃ n, k = (ns.length - 1) + n := ⟨k - (ns.length - 1), by lia⟩
  exact T_trims _ n fun j h1 h2 => by unfold bitOf; rw [place_ge h h1, place_ge h (Nat.le_refl _)]
theorem num_take {g : G} {ns : List Int} {k : Nat} (row : Nat) (h1 : 1 ≤ k) (h2 : k ≤ ns.length) (h3 : ∀ j, k ≤ j → j < ns.length → ns[j]? = ns[k - 1]?) : num g row (ns.take k) = num g row ns := by
  have hlen : (ns.take k).length = k := by rw [List.length_take]; lia
  have hne : ns ≠ [] := by intro e; subst e; simp at h2; lia
  unfold num
  rw [hlen]
  obtain ⟨n, hn⟩ : ∃ n, ns.length - 1 = (k - 1) + n := ⟨ns.length - k, by lia⟩
  rw [hn, T_trims (k - 1) n fun j j1 j2 => ?_]
  · refine T_congr _ _ fun j j1 j2 => ?_
    unfold bitOf
    rw [place_lt (by rw [hlen]; lia), place_lt (by lia)]
    simp
  · unfold bitOf
    rw [place_lt (by lia), place_lt (by lia)]
    by_cases hj : j = k - 1
    · subst hj; rfl
    · have := h3 j (by lia) (by lia)
      rw [List.getElem?_eq_getElem (by lia), List.getElem?_eq_getElem (by lia)] at this
      rw [Option.some.inj this]

noncomputable def Hide (p : Prop) : Prop := p

theorem forT_idx {as : It → St → (St → Prop) → Prop} {U : St → (Fl → St → Prop) → Prop} {B : Fl → St → Prop} {l : List It} (I : Nat → St → Prop)
    (step : ∀ i it st (rec : St → Prop), l[i]? = some it → (∀ st', I (i + 1) st' → rec st') → I i st → as it st fun st1 => U st1 fun fl st2 => match fl with
        | .next => rec st2
        | .cont => rec st2
        | .brk => B .next st2
        | .ret v => B (.ret v) st2) (nil : ∀ st, I l.length st → B .next st) (st : St) (h : I 0 st) : forT as U l st B := by
  refine forT_inv (fun r st => ∃ i, r = l.drop i ∧ i ≤ l.length ∧ I i st) ?_ ?_ l st ⟨0, rfl, Nat.zero_le _, h⟩
  · rintro it r st rec hrec ⟨i, e, hi, hI⟩
    have hlt : i < l.length := by
      apply Nat.lt_of_not_le; intro hh
      rw [List.drop_eq_nil_of_le hh] at e; cases e
    rw [List.drop_eq_getElem_cons hlt] at e
    cases e
    exact step i _ st rec (List.getElem?_eq_getElem hlt) (fun st' h' => hrec st' ⟨i + 1, rfl, hlt, h'⟩) hI
  · rintro st ⟨i, e, hi, hI⟩
    have : l.length ≤ i := by
      have := congrArg List.length e
      rw [List.length_drop] at this; simp at this; lia
    obtain rfl : i = l.length := by lia
    exact nil st hI
theorem compT_idx {as : It → St → (St → Prop) → Prop} {Tt : St → (Bool → St → Prop) → Prop} {U : St → (V → St → Prop) → Prop} {B : List V → St → Prop} {l : List It} (I : Nat → List V → St → Prop)
    (step : ∀ i it acc st (rec : List V → St → Prop), l[i]? = some it → (∀ acc' st', I (i + 1) acc' st' → rec acc' st') → I i acc st → as it st fun st1 => Tt st1 fun b st2 => match b with
        | true => U st2 fun v st3 => rec (acc ++ [v]) st3
        | false => rec acc st2) (nil : ∀ acc st, I l.length acc st → B acc st) (acc : List V) (st : St) (h : I 0 acc st) : compT as Tt U l acc st B := by
  refine compT_inv (fun r acc st => ∃ i, r = l.drop i ∧ i ≤ l.length ∧ I i acc st) ?_ ?_ l acc st ⟨0, rfl, Nat.zero_le _, h⟩
  · rintro it r acc st rec hrec ⟨i, e, hi, hI⟩
    have hlt : i < l.length := by
      apply Nat.lt_of_not_le; intro hh
      rw [List.drop_eq_nil_of_le hh] at e; cases e
    rw [List.drop_eq_getElem_cons hlt] at e
    cases e
    exact step i _ acc st rec (List.getElem?_eq_getElem hlt) (fun acc' st' h' => hrec acc' st' ⟨i + 1, rfl, hlt, h'⟩) hI
  · rintro acc st ⟨i, e, hi, hI⟩
    have : l.length ≤ i := by
      have := congrArg List.length e
      rw [List.length_drop] at this; simp at this; lia
    obtain rfl : i = l.length := by lia
    exact nil acc st hI
theorem rangeSize_nat (n : Nat) : (Builtin.Range.rangeSize 0 (n : Int) 1).toNat = n := by
  unfold Builtin.Range.rangeSize
  by_cases h : n = 0
  · subst h; rfl
  · have : (0 : Int) < n := by lia
    rw [if_pos (by decide), if_pos this]; simp
theorem rng_nat (n : Nat) {f : Int → It} : (rngL 0 (n : Int) 1).map f = (List.range n).map fun k : Nat => f k := by
  unfold rngL
  rw [rangeSize_nat, List.map_map]
  apply List.map_congr_left
  intro k _
  simp
theorem rng_at {n i : Nat} {f : Int → It} {it : It} (h : ((rngL 0 (n : Int) 1).map f)[i]? = some it) : i < n ∧ it = f i := by
  rw [rng_nat] at h
  by_cases hi : i < n
  · simp [hi] at h; exact ⟨hi, h.symm⟩
  · simp [hi] at h
theorem rng_len (n : Nat) {f : Int → It} : ((rngL 0 (n : Int) 1).map f).length = n := by rw [rng_nat]; simp
theorem small_nat {n : Nat} (h : n ≤ 1000000) : Builtin.Range.small 0 (n : Int) 1 = true := by
  exact small_one (by lia) (by lia) (by lia) (by lia)

noncomputable def cyF (fa fb : Nat → Bool) (c0 : Bool) : Nat → Bool
  | 0 => c0
  | j + 1 => fa j && fb j || (fa j != fb j) && cyF fa fb c0 j
noncomputable def smF (fa fb : Nat → Bool) (c0 : Bool) (j : Nat) : Bool := (fa j != fb j) != cyF fa fb c0 j
theorem sum_bits {g : G} {row : Nat} {a b fs : List Int} {c0 : Bool} (ha : a ≠ []) (hb : b ≠ []) (hl : fs.length = max a.length b.length + 1)
    (hf : ∀ j x, fs[j]? = some x → lit g row x = smF (bitOf g row a) (bitOf g row b) c0 j) : num g row fs = num g row a + num g row b + b2i c0 := by
  have pa : 0 < a.length := List.length_pos_iff.mpr ha
  have pb : 0 < b.length := List.length_pos_iff.mpr hb
  obtain ⟨K, hK⟩ : ∃ K, max a.length b.length = K + 1 := ⟨max a.length b.length - 1, by lia⟩
  have h1 : num g row fs = T (smF (bitOf g row a) (bitOf g row b) c0) 0 (K + 1) := by
    unfold num
    rw [hl, hK]
    refine T_congr _ _ fun j _ h2 => ?_
    unfold bitOf
    rw [place_lt (by lia)]
    exact hf j _ (List.getElem?_eq_getElem (by lia))
  have e1 : bitOf g row a (0 + K + 1) = bitOf g row a (0 + K) := by unfold bitOf; rw [place_ge ha (by lia), place_ge ha (by lia)]
  have e2 : bitOf g row b (0 + K + 1) = bitOf g row b (0 + K) := by unfold bitOf; rw [place_ge hb (by lia), place_ge hb (by lia)]
  rw [h1, T_add (s := smF (bitOf g row a) (bitOf g row b) c0) (c := cyF (bitOf g row a) (bitOf g row b) c0) (fun _ => rfl) (fun _ => rfl) K 0 e1 e2, num_wide ha row (K + 1) (by lia), num_wide hb row (K + 1) (by lia)]
  rfl

noncomputable def S_added (args : List V) (g : G) (P : V → G → Prop) : Prop := ∃ (m : Nat) (a b : List Int) (cy : Int), args = [.obj .bin, .tup (a.map .int), .tup (b.map .int), .int cy] ∧ Inv m g ∧ Num g a ∧ Num g b ∧ a.length ≤ 40 ∧ b.length ≤ 40 ∧ Gate g cy ∧ g.kinds.length + 400 ≤ gateCap ∧
  ∀ r g', Ext g g' 400 → Inv m g' → Num g' r → r.length ≤ max a.length b.length + 1 → (∀ row, num g' row r = num g' row a + num g' row b + b2i (lit g' row cy)) → P (.tup (r.map .int)) g'
theorem f_added (c : Cx) : CallS c 6 (.ref 63) S_added := by
  refine' callS_intro ?kk ?ho ?hcd ?hbind ?hkind ?hfree ?hco ?hgen ?hk ?hB ?hS
  case ho => (show (hd.heap_39 _).lookup _ = _; with_unfolding_all rfl)
  case hcd => kernel_rfl
  case hkind => rfl
  case hfree => rfl
  case hco => rfl
  case hgen => rfl
  case hk => rfl
  case kk => exact 4
  case hbind => (intro xs hx; obtain ⟨a, b, d, e, ee⟩ := len4 hx; subst ee; rfl)
  case hB =>
    repeat' first
      | (with_reducible refine' s_nil)
      | (with_reducible refine' s_cons ?_ ?_)
      | (with_reducible refine' s_ret ?_)
      | ((with_reducible refine' s_for ?ht ?_ ?_ ?h2); (case ht => walk_at "mine tgt"); (case h2 => (intros; with_unfolding_all rfl)))
      | (with_reducible refine' e_int)
      | ((with_reducible refine' e_name2 ?h1 ?h2); (case h1 | h2 => (intros; with_unfolding_all rfl)))
      | (with_reducible refine' o_b_add2 ?_ ?_)
      | ((with_reducible refine' e_attr ?_ ?h1); (case h1 => (intros; with_unfolding_all rfl)))
      | (with_reducible refine' a_nil)
      | ((with_reducible refine' a_cons ?_ ?_ ?h1); (case h1 => (intros; with_unfolding_all rfl)))
      | (with_reducible refine' e_tup ?_)
      | (with_reducible refine' i_val ?_)
      | ((with_reducible refine' e_call ?hfe ?hC ?hm ?_ ?h1 ?h2); (case hfe => walk_at "mine callee"); (case hC => (first | exact c_range | exact c_max | exact c_len | exact f_place_of _ | exact f_unlike _ | exact f_either _ | exact f_both _ | exact f_trimmed _)); (case hm => decide); (case h1 | h2 => (intros; with_unfolding_all rfl)))
      | ((with_reducible refine' e_append ?_ ?h1 ?h2 ?h3 ?h4); (case h1 | h2 | h3 | h4 => (intros; with_unfolding_all rfl)))
      | ((with_reducible refine' e_meth (k := .circ) ?_ ?hC ?hm ?_ ?h1 ?h2 ?h3 ?h4 ?h5 ?h6); (case h1 => with_unfolding_all rfl); (case hC => (first | exact c_range | exact c_max | exact c_len | exact f_place_of _ | exact f_unlike _ | exact f_either _ | exact f_both _ | exact f_trimmed _)); (case hm => decide); (case h2 => kernel_rfl); (case h3 => kernel_rfl); (case h4 | h5 | h6 => (intros; with_unfolding_all rfl)))
      | ((with_reducible refine' s_ownlst ?_ ?h1 ?h2); (case h1 => first | exact .inl rfl | exact .inr rfl); (case h2 => (intros; with_unfolding_all rfl)))
      | ((with_reducible refine' s_swap ?_ ?h1 ?h2 ?h3 ?h4); (case h4 => walk_at "mine swapped"); (case h1 | h2 | h3 => (intros; with_unfolding_all rfl)))
      | ((with_reducible refine' s_asgn ?_ ?h1 ?h2); (case h1 => first | exact .inl rfl | exact .inr rfl); (case h2 => walk_at "mine plain"))
      | ((with_reducible refine' s_expr ?_ ?h2); (case h2 => (intros; with_unfolding_all rfl)))
  rintro args g P ⟨m, a, b, cy, rfl, hI, ha, hb, la, lb, hc, hcap, hP⟩
  refine ⟨rfl, ?_⟩
  walk_at "mine vc"
  intro ad
  walk_at "mine vc"
  have hn : (max ((a.map V.int).length : Int) ((b.map V.int).length : Int) + 1) = ((max a.length b.length + 1 : Nat) : Int) := by simp only [List.length_map]; lia
  rw [hn]
  refine ⟨small_nat (by lia), by rw [rangeSize_nat]; show _ ≤ 16777216; lia, ?_⟩
  walk_at "mine vc"
  refine forT_idx (fun i st => ∃ (L : Str → Option V) (gi : G) (fs : List Int) (cyi : Int), st = ⟨L, .lst (Str.ofString "found") ad (fs.map .int) true, gi⟩ ∧ L (Str.ofString "self") = some (.obj .bin) ∧ L (Str.ofString "a") = some (.tup (a.map .int)) ∧ L (Str.ofString "b") = some (.tup (b.map .int)) ∧ L (Str.ofString "carry") = some (.int cyi) ∧ L (Str.ofString "found") = none ∧
    fs.length = i ∧ Ext g gi (9 * i) ∧ Inv m gi ∧ (∀ x ∈ fs, Gate gi x) ∧ Gate gi cyi ∧ (∀ row, lit gi row cyi = cyF (bitOf g row a) (bitOf g row b) (lit g row cy) i) ∧ (∀ row j x, fs[j]? = some x → lit gi row x = smF (bitOf g row a) (bitOf g row b) (lit g row cy) j)) ?_ ?_ _ ?_
  · rintro i it st rec hit hrec ⟨L, gi, fs, cyi, rfl, hs, hLa, hLb, hLc, hLf, hlen, hE, hIi, hfs, hcy, hlc, hls⟩
    obtain ⟨hi, rfl⟩ := rng_at hit
    have hb40 : i ≤ 41 := by lia
    have hx : Gate gi (place a i) := (ha.2 _ (place_mem ha.1 i)).ext hE
    have hy : Gate gi (place b i) := (hb.2 _ (place_mem hb.1 i)).ext hE
    have ll := hE.len
    clear hit hP
    replace hrec : Hide _ := hrec
    dsimp only
    walk_at "mine vs"
    refine ⟨a, i, rfl, ha.1, ?_⟩
    walk_at "mine vs"
    refine ⟨b, i, rfl, hb.1, ?_⟩
    refine ⟨by show 2 ≤ 16777216; lia, ?_⟩
    walk_at "mine vs"
    refine ⟨m, _, _, rfl, hIi, hx, hy, by lia, fun r1 g1 hE1 hI1 hr1 hl1 => ?_⟩
    have l1 := hE1.len
    walk_at "mine vs"
    refine ⟨m, _, _, rfl, hI1, hr1, hcy.ext hE1, by lia, fun r2 g2 hE2 hI2 hr2 hl2 => ?_⟩
    have l2 := hE2.len
    refine ⟨by rw [List.length_map, hlen]; show _ ≤ 16777216; lia, ?_⟩
    walk_at "mine vs"
    have hE12 := hE1.trans hE2
    refine ⟨m, _, _, rfl, hI2, hx.ext hE12, hy.ext hE12, by lia, fun r3 g3 hE3 hI3 hr3 hl3 => ?_⟩
    have l3 := hE3.len
    refine ⟨m, _, _, rfl, hI3, (hr1.ext hE2).ext hE3, (hcy.ext hE12).ext hE3, by lia, fun r4 g4 hE4 hI4 hr4 hl4 => ?_⟩
    have l4 := hE4.len
    refine ⟨m, _, _, rfl, hI4, hr3.ext hE4, hr4, by lia, fun r5 g5 hE5 hI5 hr5 hl5 => ?_⟩
    have E3 := hE12.trans hE3
    have E4 := E3.trans hE4
    have E5 := E4.trans hE5
    have vx : ∀ row, lit g5 row (place a i) = bitOf g row a i := fun row => by
      rw [lit_ext hIi E5 hx]; exact lit_ext hI hE (ha.2 _ (place_mem ha.1 i)) row
    have vy : ∀ row, lit g5 row (place b i) = bitOf g row b i := fun row => by
      rw [lit_ext hIi E5 hy]; exact lit_ext hI hE (hb.2 _ (place_mem hb.1 i)) row
    have vc : ∀ row, lit g5 row cyi = cyF (bitOf g row a) (bitOf g row b) (lit g row cy) i := fun row => by
      rw [lit_ext hIi E5 hcy]; exact hlc row
    have v1 : ∀ row, lit g5 row r1 = (bitOf g row a i != bitOf g row b i) := fun row => by
      rw [← vx, ← vy, lit_ext hI1 (((hE2.trans hE3).trans hE4).trans hE5) hr1, hl1, ← lit_ext hI1 (((hE2.trans hE3).trans hE4).trans hE5) (hx.ext hE1), ← lit_ext hI1 (((hE2.trans hE3).trans hE4).trans hE5) (hy.ext hE1)]
    have v2 : ∀ row, lit g5 row r2 = smF (bitOf g row a) (bitOf g row b) (lit g row cy) i := fun row => by
      rw [lit_ext hI2 ((hE3.trans hE4).trans hE5) hr2, hl2, ← lit_ext hI2 ((hE3.trans hE4).trans hE5) (hr1.ext hE2), ← lit_ext hI2 ((hE3.trans hE4).trans hE5) (hcy.ext hE12), v1, vc]; rfl
    have v3 : ∀ row, lit g5 row r3 = (bitOf g row a i && bitOf g row b i) := fun row => by
      rw [← vx, ← vy, lit_ext hI3 (hE4.trans hE5) hr3, hl3, ← lit_ext hI3 (hE4.trans hE5) (hx.ext E3), ← lit_ext hI3 (hE4.trans hE5) (hy.ext E3)]
    have v4 : ∀ row, lit g5 row r4 = ((bitOf g row a i != bitOf g row b i) && cyF (bitOf g row a) (bitOf g row b) (lit g row cy) i) := fun row => by
      rw [lit_ext hI4 hE5 hr4, hl4, ← lit_ext hI4 hE5 (((hr1.ext hE2).ext hE3).ext hE4), ← lit_ext hI4 hE5 (((hcy.ext hE12).ext hE3).ext hE4), v1, vc]
    walk_at "mine vs"
    refine (show ∀ st', _ → rec st' from hrec) _ ⟨_, g5, fs ++ [r2], r5, by rw [List.map_append]; rfl, ?_, ?_, ?_, ?_, ?_, ?_, ?_, hI5, ?_, hr5, ?_, ?_⟩
    · simp (decide := true) only [v_set_loc, if_false, if_true]; exact hs
    · simp (decide := true) only [v_set_loc, if_false, if_true]; exact hLa
    · simp (decide := true) only [v_set_loc, if_false, if_true]; exact hLb
    · simp (decide := true) only [v_set_loc, if_false, if_true]
    · simp (decide := true) only [v_set_loc, if_false, if_true]; exact hLf
    · simp [hlen]
    · exact (hE.trans E5).le (by lia)
    · intro x hx
      rcases List.mem_append.mp hx with hx | hx
      · exact (hfs x hx).ext E5
      · rw [List.mem_singleton.mp hx]; exact hr2.ext ((hE3.trans hE4).trans hE5)
    · intro row
      rw [hl5 row, v3, v4]; rfl
    · intro row j x hj
      by_cases hjl : j < fs.length
      · rw [List.getElem?_append_left hjl] at hj
        rw [lit_ext hIi E5 (hfs x (List.mem_of_getElem? hj))]; exact hls row j x hj
      · rw [List.getElem?_append_right (by lia)] at hj
        have hj0 : j - fs.length = 0 := by
          apply Nat.eq_zero_of_not_pos; intro hp
          rw [List.getElem?_eq_none (by simp; lia)] at hj; cases hj
        rw [hj0] at hj
        cases hj
        obtain rfl : j = i := by lia
        exact v2 row
  · rintro st ⟨L, gi, fs, cyi, rfl, hs, hLa, hLb, hLc, hLf, hlen, hE, hIi, hfs, hcy, hlc, hls⟩
    rw [rng_len] at hlen hE
    have pa : 0 < a.length := List.length_pos_iff.mpr ha.1
    have hE4 : Ext g gi 400 := hE.le (by lia)
    have hne : fs ≠ [] := by intro e; subst e; simp at hlen
    replace hP : Hide _ := hP
    walk_at "mine vs"
    refine ⟨fs, .inr rfl, hne, fun k k1 k2 k3 => ?_⟩
    have hPP : ∀ (r : List Int) (g' : G), Ext g g' 400 → Inv m g' → Num g' r → r.length ≤ max a.length b.length + 1 → (∀ (row : Nat), num g' row r = num g' row a + num g' row b + b2i (lit g' row cy)) → P (V.tup (List.map V.int r)) g' := hP
    refine hPP _ _ hE4 hIi ⟨fun e => ?_, fun x hx => hfs x (List.mem_of_mem_take hx)⟩ (by rw [List.length_take]; lia) fun row => ?_
    · have := congrArg List.length e
      rw [List.length_take, List.length_nil] at this; lia
    · rw [num_take row k1 k2 k3, num_ext hI hE4 ha, num_ext hI hE4 hb, lit_ext hI hE4 hc]
      have ba : bitOf gi row a = bitOf g row a := funext fun j => bit_ext hI hE4 ha row j
      have bb : bitOf gi row b = bitOf g row b := funext fun j => bit_ext hI hE4 hb row j
      rw [sum_bits (a := a) (b := b) (c0 := lit g row cy) ha.1 hb.1 hlen (fun j x hj => by rw [ba, bb]; exact hls row j x hj), num_ext hI hE4 ha, num_ext hI hE4 hb]
  · exact ⟨_, g, [], cy, rfl, rfl, rfl, rfl, rfl, rfl, rfl, (Ext.refl g).le (by lia), hI, by simp, hc, fun row => rfl, by simp⟩

noncomputable def tupV (ns : List Int) : V := .tup (ns.map .int)
noncomputable def S_plus (args : List V) (g : G) (P : V → G → Prop) : Prop := ∃ (m : Nat) (a b : List Int), args = [.obj .bin, .tup (a.map .int), .tup (b.map .int)] ∧ Inv m g ∧ Num g a ∧ Num g b ∧ a.length ≤ 40 ∧ b.length ≤ 40 ∧ g.kinds.length + 400 ≤ gateCap ∧
  ∀ r g', Ext g g' 400 → Inv m g' → Num g' r → r.length ≤ max a.length b.length + 1 → (∀ row, num g' row r = num g' row a + num g' row b) → P (.tup (r.map .int)) g'
noncomputable def S_less (args : List V) (g : G) (P : V → G → Prop) : Prop := ∃ (m : Nat) (a b : List Int), args = [.obj .bin, .tup (a.map .int), .tup (b.map .int)] ∧ Inv m g ∧ Num g a ∧ Num g b ∧ a.length ≤ 40 ∧ b.length ≤ 40 ∧ g.kinds.length + 400 ≤ gateCap ∧
  ∀ r g', Ext g g' 400 → Inv m g' → Num g' r → r.length ≤ max a.length b.length + 1 → (∀ row, num g' row r = num g' row a - num g' row b) → P (.tup (r.map .int)) g'
noncomputable def S_constant (args : List V) (g : G) (P : V → G → Prop) : Prop := ∃ (k : Int) (w : Nat), args = [.obj .bin, .int k] ∧ -(2 ^ w : Int) ≤ k ∧ k < 2 ^ w ∧ w ≤ 20 ∧
  ∀ r : List Int, r ≠ [] → (∀ x ∈ r, x = 1 ∨ x = -1) → r.length ≤ w + 1 → (∀ m g row, Inv m g → num g row r = k) → P (.tup (r.map .int)) g
noncomputable def S_negated (args : List V) (g : G) (P : V → G → Prop) : Prop := ∃ (m : Nat) (a : List Int), args = [.obj .bin, .tup (a.map .int)] ∧ Inv m g ∧ Num g a ∧ a.length ≤ 40 ∧ g.kinds.length + 400 ≤ gateCap ∧
  ∀ r g', Ext g g' 400 → Inv m g' → Num g' r → r.length ≤ a.length + 1 → (∀ row, num g' row r = - num g' row a) → P (.tup (r.map .int)) g'
noncomputable def S_total (args : List V) (g : G) (P : V → G → Prop) : Prop := ∃ (m w : Nat) (nss : List (List Int)), args = [.obj .bin, .lst (nss.map tupV)] ∧ Inv m g ∧ (∀ ns ∈ nss, Num g ns ∧ ns.length ≤ w) ∧ nss.length ≤ 4 ∧ 1 ≤ w ∧ w ≤ 30 ∧ g.kinds.length + 1600 ≤ gateCap ∧
  ∀ r g', Ext g g' 1600 → Inv m g' → Num g' r → r.length ≤ w + 2 → (∀ row, num g' row r = (nss.map (num g' row)).sum) → P (.tup (r.map .int)) g'
noncomputable def S_of_gates (args : List V) (g : G) (P : V → G → Prop) : Prop := ∃ (m : Nat) (gs : List Int), args = [.obj .bin, .lst (gs.map .int)] ∧ Inv m g ∧ (∀ x ∈ gs, Gate g x) ∧ gs.length ≤ 4 ∧ g.kinds.length + 1600 ≤ gateCap ∧
  ∀ r g', Ext g g' 1600 → Inv m g' → Num g' r → r.length ≤ 4 → (∀ row, num g' row r = (gs.map fun x => b2i (lit g' row x)).sum) → P (.tup (r.map .int)) g'
noncomputable def S_chosen (args : List V) (g : G) (P : V → G → Prop) : Prop := ∃ (m : Nat) (t : Int) (a b : List Int), args = [.obj .bin, .int t, .tup (a.map .int), .tup (b.map .int)] ∧ Inv m g ∧ Gate g t ∧ Num g a ∧ Num g b ∧ a.length ≤ 40 ∧ b.length ≤ 40 ∧ g.kinds.length + 400 ≤ gateCap ∧
  ∀ r g', Ext g g' 400 → Inv m g' → Num g' r → r.length ≤ max a.length b.length → (∀ row, num g' row r = if lit g' row t = true then num g' row a else num g' row b) → P (.tup (r.map .int)) g'
noncomputable def S_cmp (f : Int → Int → Bool) (args : List V) (g : G) (P : V → G → Prop) : Prop := ∃ (m : Nat) (a b : List Int), args = [.obj .bin, .tup (a.map .int), .tup (b.map .int)] ∧ Inv m g ∧ Num g a ∧ Num g b ∧ a.length ≤ 40 ∧ b.length ≤ 40 ∧ g.kinds.length + 400 ≤ gateCap ∧
  ∀ x g', Ext g g' 400 → Inv m g' → Gate g' x → (∀ row, lit g' row x = f (num g' row a) (num g' row b)) → P (.int x) g'
noncomputable def S_below := S_cmp fun i j => decide (i < j)
noncomputable def S_at_most := S_cmp fun i j => decide (i ≤ j)
noncomputable def S_equal := S_cmp fun i j => decide (i = j)

/-- one of the inputs or a settled gate -/
noncomputable def Base (m : Nat) (x : Int) : Prop := x ≠ 0 ∧ x.natAbs < m + 2
structure Run (g g' : G) (n d : Nat) : Prop where
  kinds : ∃ l, g'.kinds = g.kinds ++ l ∧ l.length ≤ n
  parts : ∃ l, g'.parts = g.parts ++ l
  at_ : g.at_ ≤ g'.at_ ∧ g'.at_ ≤ g.at_ + d
  cells : g'.cells = g.cells
  inputs : g'.inputs = g.inputs
  numbers : g'.numbers = g.numbers
  ready : g'.ready = g.ready
  done : g'.done = g.done
theorem Ext.run {g g' : G} {n : Nat} (e : Ext g g' n) : Run g g' n 0 := ⟨e.kinds, e.parts, by rw [e.at_]; lia, e.cells, e.inputs, e.numbers, e.ready, e.done⟩
theorem Run.trans {a b d : G} {n m p q : Nat} (x : Run a b n p) (y : Run b d m q) : Run a d (n + m) (p + q) := by
  obtain ⟨l, e, z⟩ := x.kinds
  obtain ⟨l', e', z'⟩ := y.kinds
  obtain ⟨k, f⟩ := x.parts
  obtain ⟨k', f'⟩ := y.parts
  have h1 := x.at_
  have h2 := y.at_
  exact ⟨⟨l ++ l', by rw [e', e, List.append_assoc], by simp; lia⟩, ⟨k ++ k', by rw [f', f, List.append_assoc]⟩, by lia, y.cells.trans x.cells, y.inputs.trans x.inputs, y.numbers.trans x.numbers, y.ready.trans x.ready, y.done.trans x.done⟩
theorem Run.le {a b : G} {n m p q : Nat} (x : Run a b n p) (h : n ≤ m) (h' : p ≤ q) : Run a b m q := { x with kinds := let ⟨l, e, z⟩ := x.kinds; ⟨l, e, Nat.le_trans z h⟩, at_ := by have := x.at_; lia }
theorem Run.draw (g : G) : Run g { g with at_ := g.at_ + 1 } 0 1 := ⟨⟨[], by simp, by simp⟩, ⟨[], by simp⟩, by show g.at_ ≤ g.at_ + 1 ∧ g.at_ + 1 ≤ g.at_ + 1; lia, rfl, rfl, rfl, rfl, rfl⟩
theorem Run.refl (g : G) : Run g g 0 0 := (Ext.refl g).run
/-- what a run leaves of the gates, at the counter that it reached -/
noncomputable def G.at' (g : G) (i : Int) : G := { g with at_ := i }
theorem Run.ext {g g' : G} {n d : Nat} (r : Run g g' n d) : Ext (g.at' g'.at_) g' n := ⟨r.kinds, r.parts, rfl, r.cells, r.inputs, r.numbers, r.ready, r.done⟩
theorem Inv.at' {m : Nat} {g : G} (h : Inv m g) (i : Int) : Inv m (g.at' i) := ⟨h.len, h.big, h.p0, h.p1, h.inp, h.gate, h.known, h.knlen⟩
theorem Run.len {a b : G} {n d : Nat} (x : Run a b n d) : a.kinds.length ≤ b.kinds.length ∧ b.kinds.length ≤ a.kinds.length + n := x.ext.len
theorem Gate.run {a b : G} {n d : Nat} {x : Int} (h : Gate a x) (e : Run a b n d) : Gate b x := ⟨h.1, Nat.lt_of_lt_of_le h.2 e.len.1⟩
theorem Num.run {a b : G} {n d : Nat} {ns : List Int} (h : Num a ns) (e : Run a b n d) : Num b ns := ⟨h.1, fun x hx => (h.2 x hx).run e⟩
theorem num_run {m : Nat} {g g' : G} {n d : Nat} {ns : List Int} (h : Inv m g) (e : Run g g' n d) (hn : Num g ns) (row : Nat) : num g' row ns = num g row ns :=
  num_ext (g := g.at' g'.at_) (h.at' _) e.ext ⟨hn.1, hn.2⟩ row
structure Wd (m : Nat) (g : G) : Prop where
  inv : Inv m g
  inputs : g.inputs = (List.range m).map fun i : Nat => (i : Int) + 2
  ready : g.ready = true
  m1 : 1 ≤ m
  m3 : m ≤ 3
theorem Wd.run {m : Nat} {g g' : G} {n d : Nat} (h : Wd m g) (e : Run g g' n d) (hi : Inv m g') : Wd m g' := ⟨hi, e.inputs.trans h.inputs, e.ready.trans h.ready, h.m1, h.m3⟩
theorem Wd.draw {m : Nat} {g : G} (h : Wd m g) : Wd m { g with at_ := g.at_ + 1 } := h.run (.draw g) (h.inv.at' _)
theorem Base.gate {m : Nat} {g : G} {x : Int} (h : Base m x) (i : Inv m g) : Gate g x := ⟨h.1, Nat.lt_of_lt_of_le h.2 i.big⟩

noncomputable def S_draw (args : List V) (g : G) (P : V → G → Prop) : Prop := ∃ wide : Nat, args = [.obj .feed, .int wide] ∧ 0 < wide ∧ wide ≤ 10000 ∧ 0 ≤ g.at_ ∧ g.at_ + 1 ≤ 100000 ∧ ∀ r : Nat, r < wide → P (.int r) { g with at_ := g.at_ + 1 }
noncomputable def S_gate (args : List V) (g : G) (P : V → G → Prop) : Prop := ∃ m : Nat, args = [.obj .feed, .obj .world] ∧ Wd m g ∧ 0 ≤ g.at_ ∧ g.at_ + 1 ≤ 100000 ∧ ∀ x, Base m x → P (.int x) { g with at_ := g.at_ + 1 }
noncomputable def truthsV (m : Nat) (g : G) (x : Int) : List V := (List.range (2 ^ m)).map fun row => .bool (lit g row x)
noncomputable def S_truths (args : List V) (g : G) (P : V → G → Prop) : Prop := ∃ (m : Nat) (x : Int), args = [.obj .world, .int x] ∧ Wd m g ∧ Base m x ∧ P (.lst (truthsV m g x)) g
noncomputable def dues (m : Nat) (g : G) (ns : List Int) : List Int := (List.range (2 ^ m)).map fun row => num g row ns
noncomputable def numV (m : Nat) (g : G) (ns : List Int) : V := .tup [.tup (ns.map .int), .lst ((dues m g ns).map .int)]
noncomputable def Right (m w : Nat) (g : G) (v : V) : Prop := ∃ ns, v = numV m g ns ∧ Num g ns ∧ ns.length ≤ w
noncomputable def S_counted (args : List V) (g : G) (P : V → G → Prop) : Prop := ∃ m : Nat, args = [.obj .feed, .obj .world] ∧ Wd m g ∧ g.kinds.length + 1600 ≤ gateCap ∧ 0 ≤ g.at_ ∧ g.at_ + 5 ≤ 100000 ∧
  ∀ v g', Run g g' 1600 5 → Inv m g' → Right m 4 g' v → P v g'
noncomputable def S_number (args : List V) (g : G) (P : V → G → Prop) : Prop := ∃ m : Nat, args = [.obj .feed, .obj .world] ∧ Wd m g ∧ g.kinds.length + 1600 ≤ gateCap ∧ 0 ≤ g.at_ ∧ g.at_ + 6 ≤ 100000 ∧
  ∀ v g', Run g g' 1600 6 → Inv m g' → Right m 5 g' v → P v g'
noncomputable def S_reckoned (args : List V) (g : G) (P : V → G → Prop) : Prop := ∃ m w : Nat, args = [.obj .feed, .obj .world] ∧ Wd m g ∧ (∀ v ∈ g.numbers, Right m w g v) ∧ g.numbers ≠ [] ∧ g.numbers.length ≤ 100 ∧ 4 ≤ w ∧ w ≤ 30 ∧ g.kinds.length + 1600 ≤ gateCap ∧ 0 ≤ g.at_ ∧ g.at_ + 8 ≤ 100000 ∧
  ∀ v g', Run g g' 1600 8 → Inv m g' → Right m (w + 2) g' v → P v g'
noncomputable def knownV (m : Nat) (g : G) : List V := (List.range g.kinds.length).map fun k : Nat => .lst (if k = 0 then [] else truthsV m g (k : Int))
noncomputable def S_known (args : List V) (g : G) (P : V → G → Prop) : Prop := ∃ m : Nat, args = [.obj .world] ∧ Wd m g ∧ g.kinds.length ≤ gateCap ∧ P (.lst (knownV m g)) g
noncomputable def S_is_number (args : List V) (g : G) (P : V → G → Prop) : Prop := ∃ (m : Nat) (g0 : G) (ns : List Int), args = [.lst (knownV m g0), .tup (ns.map .int), .lst ((dues m g0 ns).map .int)] ∧ Inv m g0 ∧ m ≤ 3 ∧ Num g0 ns ∧ ns.length ≤ 40 ∧ P (.bool true) g
noncomputable def S_is_gate (args : List V) (g : G) (P : V → G → Prop) : Prop := ∃ (m : Nat) (g0 : G) (x : Int), args = [.lst (knownV m g0), .int x, .lst (truthsV m g0 x)] ∧ Inv m g0 ∧ m ≤ 3 ∧ Gate g0 x ∧ P (.bool true) g

theorem compT_fm {as : It → St → (St → Prop) → Prop} {Tt : St → (Bool → St → Prop) → Prop} {U : St → (V → St → Prop) → Prop} {B : List V → St → Prop} {α : Type} (xs : List α) (t : α → It) (f : α → Option V) (K : St → Prop)
    (step : ∀ x ∈ xs, ∀ acc st (rec : List V → St → Prop), K st → (∀ st', K st' → rec (acc ++ (f x).toList) st') → as (t x) st fun st1 => Tt st1 fun b st2 => match b with
        | true => U st2 fun v st3 => rec (acc ++ [v]) st3
        | false => rec acc st2) (nil : ∀ st, K st → B (xs.filterMap f) st) (st : St) (h : K st) : compT as Tt U (xs.map t) [] st B := by
  refine compT_inv (fun r acc st => ∃ pre rem, xs = pre ++ rem ∧ r = rem.map t ∧ acc = pre.filterMap f ∧ K st) ?_ ?_ _ _ st ⟨[], xs, rfl, rfl, rfl, h⟩
  · rintro it r acc st rec hrec ⟨pre, rem, hx, hr, ha, hK⟩
    cases rem with
    | nil => cases hr
    | cons x rem =>
      cases hr
      refine step x (by rw [hx]; simp) acc st rec hK fun st' hK' => hrec _ _ ⟨pre ++ [x], rem, by rw [hx]; simp, rfl, ?_, hK'⟩
      rw [ha, List.filterMap_append]
      cases hf : f x <;> simp [List.filterMap, hf]
  · rintro acc st ⟨pre, rem, hx, hr, ha, hK⟩
    have : rem = [] := by cases rem <;> first | rfl | cases hr
    subst this
    rw [List.append_nil] at hx
    subst hx; subst ha
    exact nil st hK
theorem compT_map {as : It → St → (St → Prop) → Prop} {Tt : St → (Bool → St → Prop) → Prop} {U : St → (V → St → Prop) → Prop} {B : List V → St → Prop} {α : Type} (xs : List α) (t : α → It) (f : α → V) (K : St → Prop)
    (step : ∀ x ∈ xs, ∀ acc st (rec : List V → St → Prop), K st → (∀ st', K st' → rec (acc ++ [f x]) st') → as (t x) st fun st1 => Tt st1 fun b st2 => match b with
        | true => U st2 fun v st3 => rec (acc ++ [v]) st3
        | false => rec acc st2) (nil : ∀ st, K st → B (xs.map f) st) (st : St) (h : K st) : compT as Tt U (xs.map t) [] st B :=
  compT_fm xs t (fun x => some (f x)) K (fun x hx acc st rec hK hr => step x hx acc st rec hK hr) (fun st hK => by rw [show xs.filterMap (fun x => some (f x)) = xs.map f from congrFun List.filterMap_eq_map' xs]; exact nil st hK) st h

noncomputable def full : List Bool → Int → Int
  | [], k => k
  | b :: l, k => b2i b + 2 * full l k
theorem full_snoc : ∀ (l : List Bool) (b : Bool) (k : Int), full (l ++ [b]) k = full l (b2i b + 2 * k)
  | [], _, _ => rfl
  | x :: l, b, k => by show b2i x + 2 * full (l ++ [b]) k = b2i x + 2 * full l (b2i b + 2 * k); rw [full_snoc l]
theorem T_full {f : Nat → Bool} : ∀ (bl : List Bool) (i : Nat), (∀ j x, bl[j]? = some x → f (i + j) = x) → T f i bl.length = full bl (- b2i (f (i + bl.length)))
  | [], i, _ => rfl
  | b :: bl, i, h => by
    show b2i (f i) + 2 * T f (i + 1) bl.length = b2i b + 2 * full bl (- b2i (f (i + (bl.length + 1))))
    rw [T_full bl (i + 1) fun j x hx => by rw [show i + 1 + j = i + (j + 1) by lia]; exact h (j + 1) x (by simpa using hx), show i + 1 + bl.length = i + (bl.length + 1) by lia, show f i = b from h 0 b rfl]
theorem num_full (g : G) (row : Nat) (fs : List Int) (z : Int) : num g row (fs ++ [z]) = full (fs.map (lit g row)) (- b2i (lit g row z)) := by
  unfold num
  have hl : (fs ++ [z]).length - 1 = (fs.map (lit g row)).length := by simp
  rw [hl, T_full]
  · congr 2
    unfold bitOf
    rw [place_lt (by simp), List.getElem_append_right (by simp)]
    simp
  · intro j x hx
    have hj : j < fs.length := by have := (List.getElem?_eq_some_iff.mp hx).1; simpa using this
    unfold bitOf
    rw [Nat.zero_add, place_lt (by simp; lia), List.getElem_append_left hj]
    simp [hj] at hx
    exact hx
theorem settled_lit {m : Nat} {g : G} (h : Inv m g) (row : Nat) {x : Int} (hx : x = 1 ∨ x = -1) : lit g row x = decide (x = 1) := by
  rcases hx with rfl | rfl
  · rw [lit_one h]; rfl
  · rw [lit_mone h]; rfl
theorem settled_num {m : Nat} {g : G} (h : Inv m g) {r : List Int} (hne : r ≠ []) (hr : ∀ x ∈ r, x = 1 ∨ x = -1) : Num g r :=
  ⟨hne, fun x hx => by rcases hr x hx with rfl | rfl; exact gate_one h; exact gate_mone h⟩
/-- the sign -/
theorem num_sign {g : G} {ns : List Int} (h : ns ≠ []) (row : Nat) : lit g row (ns.getLast h) = decide (num g row ns < 0) := by
  have := T_sign (f := bitOf g row ns) (ns.length - 1) 0
  rw [Nat.zero_add] at this
  unfold num
  rw [← this]
  unfold bitOf
  rw [place_ge h (Nat.le_refl _)]
theorem num_neg {m : Nat} {g : G} (hI : Inv m g) {ns : List Int} (h : Num g ns) (row : Nat) : num g row (ns.map fun x => -x) = - num g row ns - 1 := by
  unfold num
  rw [List.length_map, ← T_neg]
  refine T_congr _ _ fun j _ _ => ?_
  unfold bitOf
  have : place (ns.map fun x => -x) j = - place ns j := by
    by_cases hj : j < ns.length
    · rw [place_lt hj, place_lt (by simpa using hj)]; simp
    · rw [place_ge h.1 (by lia), place_ge (by simpa using h.1) (by simp; lia), List.getLast_map]
  rw [this, lit_neg hI (h.2 _ (place_mem h.1 j))]
theorem Num.neg {g : G} {ns : List Int} (h : Num g ns) : Num g (ns.map fun x => -x) := ⟨by simpa using h.1, fun x hx => by obtain ⟨y, hy, rfl⟩ := List.mem_map.mp hx; exact (h.2 y hy).neg⟩
theorem base_lit {m : Nat} {g : G} (hI : Inv m g) {x : Int} (hx : Base m x) (row : Nat) : lit g row x = ((if x.natAbs = 1 then true else row.testBit (x.natAbs - 2)) == decide (0 < x)) := by
  have h0 : x.natAbs ≠ 0 := fun e => hx.1 (Int.natAbs_eq_zero.mp e)
  unfold lit
  rw [List.getD_eq_getElem?_getD]
  by_cases h1 : x.natAbs = 1
  · have := tv_at hI row 1 hI.p1.2 hI.p1.1 (by simp)
    have hne : ¬ Str.ofString "true" = sInput := by decide
    rw [if_neg hne] at this
    rw [if_pos h1, h1, this]; rfl
  · obtain ⟨hk, hp⟩ := hI.inp x.natAbs (by lia) hx.2
    have := tv_at hI row x.natAbs hk hp (by simp)
    rw [if_pos rfl] at this
    rw [if_neg h1, this]; rfl
theorem pow3 {m : Nat} (h : m ≤ 3) : 2 ^ m ≤ 8 := Nat.pow_le_pow_right (n := 2) (by decide) h
theorem rng2_size {n : Nat} (h : 1 ≤ n) : (Builtin.Range.rangeSize 0 ((n : Int) - 1) 2).toNat = n / 2 := by
  unfold Builtin.Range.rangeSize
  rw [if_pos (by decide)]
  by_cases h1 : n = 1
  · subst h1; rfl
  · rw [if_pos (by lia)]; lia
theorem rng2_nat {n : Nat} (h : 1 ≤ n) {f : Int → It} : (rngL 0 ((n : Int) - 1) 2).map f = (List.range (n / 2)).map fun k : Nat => f ((2 * k : Nat) : Int) := by
  unfold rngL
  rw [rng2_size h, List.map_map]
  apply List.map_congr_left
  intro k _
  show f _ = f _
  congr 1; push_cast; lia
theorem small_two {n : Nat} (h : n ≤ 1000) : Builtin.Range.small 0 ((n : Int) - 1) 2 = true := by
  unfold Builtin.Range.small
  have e : Builtin.Range.rangeSize 0 ((n : Int) - 1) 2 = if 0 < (n : Int) - 1 then ((n : Int) - 1 - 0 - 1) / 2 + 1 else 0 := by unfold Builtin.Range.rangeSize; rw [if_pos (by decide)]
  rw [e]
  simp only [Builtin.Range.rangeFitsLong, Bool.and_eq_true, Bool.or_eq_true, decide_eq_true_eq, beq_iff_eq, show (2 : Int) > 0 by decide, if_true]
  split <;> lia
theorem bitAnd_1 (x : Int) : Builtin.bitAnd x 1 = x % 2 := bitAnd_m1 x
theorem shr_test (i k : Nat) : ((i : Int).fdiv (2 ^ ((k : Nat) : Int).toNat)) % 2 = 1 ↔ i.testBit k = true := by
  rw [Int.toNat_natCast, Int.fdiv_eq_ediv_of_nonneg _ (by exact Int.le_of_lt (Int.pow_pos (by decide)))]
  have e : ((i : Int) / 2 ^ k) = ((i / 2 ^ k : Nat) : Int) := by rw [Int.natCast_ediv, Int.natCast_pow]; rfl
  rw [e, Nat.testBit_eq_decide_div_mod_eq, decide_eq_true_eq]
  lia
theorem Wd.at' {m : Nat} {g : G} (h : Wd m g) (i : Int) : Wd m (g.at' i) := ⟨h.inv.at' i, h.inputs, h.ready, h.m1, h.m3⟩
theorem Run.at' (g : G) {i : Int} {d : Nat} (h1 : g.at_ ≤ i) (h2 : i ≤ g.at_ + d) : Run g (g.at' i) 0 d := ⟨⟨[], by simp [G.at'], by simp⟩, ⟨[], by simp [G.at']⟩, ⟨h1, h2⟩, rfl, rfl, rfl, rfl, rfl⟩
noncomputable def psum (f : Nat → Bool) : Nat → Nat → Int
  | _, 0 => 0
  | i, k + 1 => b2i (f i) + 2 * psum f (i + 1) k
theorem psum_snoc (f : Nat → Bool) : ∀ (k i : Nat), psum f i (k + 1) = psum f i k + 2 ^ k * b2i (f (i + k))
  | 0, i => by show b2i (f i) + 2 * 0 = 0 + 2 ^ 0 * b2i (f i); simp
  | k + 1, i => by
    show b2i (f i) + 2 * psum f (i + 1) (k + 1) = b2i (f i) + 2 * psum f (i + 1) k + 2 ^ (k + 1) * b2i (f (i + (k + 1)))
    rw [psum_snoc f k (i + 1), show i + 1 + k = i + (k + 1) by lia, Int.pow_succ, Int.mul_add, Int.mul_comm (2 ^ k) 2, Int.mul_assoc]; lia
theorem T_psum (f : Nat → Bool) : ∀ (k i : Nat), T f i k = psum f i k + -(2 ^ k) * b2i (f (i + k))
  | 0, i => by show - b2i (f i) = 0 + -(2 ^ 0) * b2i (f i); simp
  | k + 1, i => by
    show b2i (f i) + 2 * T f (i + 1) k = b2i (f i) + 2 * psum f (i + 1) k + -(2 ^ (k + 1)) * b2i (f (i + (k + 1)))
    rw [T_psum f k (i + 1), show i + 1 + k = i + (k + 1) by lia, Int.pow_succ, Int.mul_add, Int.mul_comm (2 ^ k) 2, ← Int.mul_neg, Int.mul_assoc]; lia
theorem num_psum (g : G) (row : Nat) {ns : List Int} (h : ns ≠ []) : num g row ns = psum (bitOf g row ns) 0 (ns.length - 1) + -(2 ^ (ns.length - 1)) * b2i (bitOf g row ns (ns.length - 1)) := by
  unfold num; rw [T_psum, Nat.zero_add]
theorem num_small {g : G} {row : Nat} {ns : List Int} (h : ns.length ≤ 60) : (num g row ns).natAbs < 2 ^ 62 := by
  have := T_bound (f := bitOf g row ns) (ns.length - 1) 0
  have hp : (2 : Int) ^ (ns.length - 1) ≤ 2 ^ 60 := by
    have := Nat.pow_le_pow_right (n := 2) (by decide) (show ns.length - 1 ≤ 60 by lia)
    exact_mod_cast this
  unfold num
  lia
theorem zip_range {α β : Type} (N : Nat) (f : Nat → α) (h : Nat → β) : ((List.range N).map f).zip ((List.range N).map h) = (List.range N).map fun row => (f row, h row) := List.zip_map' ..
theorem count_len {α : Type} (l : List Nat) (h : Nat → Bool) (v : Nat → α) : ((l.filterMap fun k => if h k = true then some (v k) else none).length : Int) = (l.map fun k => b2i (h k)).sum := by
  induction l with
  | nil => rfl
  | cons a l ih =>
    rw [List.map_cons, List.sum_cons, ← ih, List.filterMap_cons]
    cases h a with
    | true => simp [b2i]; lia
    | false => simp [b2i]
theorem map_range_getD {α β : Type} (l : List α) (d : α) (f : α → β) : ((List.range l.length).map fun k => f (l.getD k d)) = l.map f := by
  apply List.ext_getElem
  · simp
  · intro i h1 h2
    simp at h1
    simp [List.getD_eq_getElem?_getD, h1]
theorem right_pair {m w : Nat} {g : G} {v : V} (h : Right m w g v) : ∃ ns, v = .tup [.tup (ns.map .int), .lst ((List.range (2 ^ m)).map fun row => .int (num g row ns))] ∧ Num g ns ∧ ns.length ≤ w := by
  obtain ⟨ns, rfl, a, b⟩ := h
  exact ⟨ns, by unfold numV dues; rw [List.map_map]; rfl, a, b⟩
theorem Right.of {m w : Nat} {g : G} {ns : List Int} {f : Nat → Int} (h : Num g ns) (hl : ns.length ≤ w) (hf : ∀ row, row < 2 ^ m → f row = num g row ns) : Right m w g (.tup [.tup (ns.map .int), .lst ((List.range (2 ^ m)).map fun row => .int (f row))]) := by
  refine ⟨ns, ?_, h, hl⟩
  unfold numV dues
  rw [List.map_map]
  have : (List.range (2 ^ m)).map (fun row => V.int (f row)) = (List.range (2 ^ m)).map (V.int ∘ fun row => num g row ns) := by
    apply List.map_congr_left
    intro row hr
    show V.int (f row) = V.int (num g row ns)
    rw [hf row (List.mem_range.mp hr)]
  rw [this]
theorem enum_at {gs : List Int} {i : Nat} {it : It} (h : (enumIt (gs.map V.int))[i]? = some it) : ∃ hi : i < gs.length, it = .two (.int (i : Int)) (.int gs[i]) := by
  obtain ⟨h1, h2⟩ := List.getElem?_eq_some_iff.mp h
  have hi : i < gs.length := by unfold enumIt at h1; simpa using h1
  refine ⟨hi, ?_⟩
  rw [← h2]
  unfold enumIt
  simp [List.getD_eq_getElem?_getD, hi]
theorem enum_len (gs : List Int) : (enumIt (gs.map V.int)).length = gs.length := by unfold enumIt; simp
theorem known_at {m : Nat} {g0 : G} {k : Nat} (h : k < g0.kinds.length) : ix (knownV m g0) (k : Int) = some (.lst (if k = 0 then [] else truthsV m g0 (k : Int))) := by
  rw [ix_nat _ _ (by unfold knownV; simpa using h)]
  simp [knownV]
theorem abs_lit {m : Nat} {g0 : G} (hI : Inv m g0) {x : Int} (hx : Gate g0 x) (row : Nat) : decide (lit g0 row (x.natAbs : Int) = decide (0 < x)) = lit g0 row x := by
  have h0 : x.natAbs ≠ 0 := fun e => hx.1 (Int.natAbs_eq_zero.mp e)
  by_cases hp : 0 < x
  · have : (x.natAbs : Int) = x := by lia
    rw [this, decide_eq_true hp]
    cases lit g0 row x <;> rfl
  · have : (x.natAbs : Int) = -x := by lia
    rw [this, decide_eq_false hp, lit_neg hI hx]
    cases lit g0 row x <;> rfl
theorem psum_filter (f : Nat → Bool) : ∀ n, ((List.range n).filterMap fun j => if f j = true then some ((2 : Int) ^ j) else none).sum = psum f 0 n
  | 0 => rfl
  | n + 1 => by
    rw [List.range_succ, List.filterMap_append, List.sum_append, psum_filter f n, psum_snoc, Nat.zero_add]
    cases h : f n <;> simp [b2i, h]
theorem filterMap_int {l : List Nat} {p : Nat → Bool} {h : Nat → Int} : (l.filterMap fun j => if p j = true then some (V.int (h j)) else none) = (l.filterMap fun j => if p j = true then some (h j) else none).map V.int := by
  rw [List.map_filterMap]
  congr 1
  funext j
  cases p j <;> rfl
theorem rng_from {n : Nat} (h : 2 ≤ n) {f : Int → It} : (rngL 2 (n : Int) 1).map f = (List.range (n - 2)).map fun k : Nat => f ((k + 2 : Nat) : Int) := by
  unfold rngL
  have e : (Builtin.Range.rangeSize 2 (n : Int) 1).toNat = n - 2 := by rw [rangeSize_one]; split <;> lia
  rw [e, List.map_map]
  apply List.map_congr_left
  intro k _
  show f _ = f _
  congr 1; push_cast; lia
theorem rng_from_size {n : Nat} : (Builtin.Range.rangeSize 2 (n : Int) 1).toNat ≤ n := by rw [rangeSize_one]; split <;> lia
theorem dues_run {m : Nat} {g g' : G} {n d : Nat} {ns : List Int} (h : Inv m g) (e : Run g g' n d) (hn : Num g ns) : dues m g' ns = dues m g ns := by
  unfold dues
  exact List.map_congr_left fun row _ => num_run h e hn row
theorem Right.run {m w : Nat} {g g' : G} {n d : Nat} {v : V} (hI : Inv m g) (h : Right m w g v) (e : Run g g' n d) : Right m w g' v := by
  obtain ⟨ns, rfl, a, b⟩ := h
  exact ⟨ns, by unfold numV; rw [dues_run hI e a], a.run e, b⟩
theorem Right.le {m w w' : Nat} {g : G} {v : V} (h : Right m w g v) (hw : w ≤ w') : Right m w' g v := by
  obtain ⟨ns, a, b, d⟩ := h
  exact ⟨ns, a, b, Nat.le_trans d hw⟩
/-- the state of the run, seen from the law: m inputs, i numbers of at most w places, at most K gates -/
structure Run2 (m i w K D : Nat) (g : G) : Prop where
  wd : Wd m g
  nums : ∀ v ∈ g.numbers, Right m w g v
  len : g.numbers.length = i
  cap : g.kinds.length ≤ K
  lo : 0 ≤ g.at_
  hi : g.at_ ≤ D
  done : g.done = false
theorem Run2.go {m i w K D n d : Nat} {g g' : G} (h : Run2 m i w K D g) (e : Run g g' n d) (hI : Inv m g') : Run2 m i w (K + n) (D + d) g' where
  wd := h.wd.run e hI
  nums := fun v hv => (h.nums v (e.numbers ▸ hv)).run h.wd.inv e
  len := by rw [e.numbers]; exact h.len
  cap := by have := e.len; have := h.cap; lia
  lo := by have := e.at_; have := h.lo; lia
  hi := by have := e.at_; have := h.hi; push_cast; lia
  done := e.done.trans h.done
theorem Run2.le {m i w w' K K' D D' : Nat} {g : G} (h : Run2 m i w K D g) (hw : w ≤ w') (hK : K ≤ K') (hD : D ≤ D') : Run2 m i w' K' D' g where
  wd := h.wd
  nums := fun v hv => (h.nums v hv).le hw
  len := h.len
  cap := Nat.le_trans h.cap hK
  lo := h.lo
  hi := by have := h.hi; lia
  done := h.done
theorem Run2.add {m i w K D : Nat} {g : G} {v : V} (h : Run2 m i w K D g) (hv : Right m w g v) : Run2 m (i + 1) w K D { g with numbers := g.numbers ++ [v] } where
  wd := ⟨⟨h.wd.inv.len, h.wd.inv.big, h.wd.inv.p0, h.wd.inv.p1, h.wd.inv.inp, h.wd.inv.gate, h.wd.inv.known, h.wd.inv.knlen⟩, h.wd.inputs, h.wd.ready, h.wd.m1, h.wd.m3⟩
  nums := fun u hu => by
    rcases List.mem_append.mp hu with hu | hu
    · exact h.nums u hu
    · rw [List.mem_singleton.mp hu]; exact hv
  len := by show (g.numbers ++ [v]).length = _; rw [List.length_append, h.len]; rfl
  cap := h.cap
  lo := h.lo
  hi := h.hi
  done := h.done
noncomputable def startG (cells : List Int) (i : Nat) : G := { kinds := [Str.ofString "", Str.ofString "true"] ++ List.replicate i sInput, parts := [[], []] ++ List.replicate i [], known := [], at_ := 1, cells := cells, inputs := [], numbers := [], ready := false, done := false }
theorem start_inv (cells : List Int) (m : Nat) (hm : 1 ≤ m) (hm3 : m ≤ 3) : Wd m { startG cells m with inputs := (List.range m).map fun i : Nat => (i : Int) + 2, ready := true } where
  inv := {
    len := by show ([[], []] ++ List.replicate m []).length = ([Str.ofString "", Str.ofString "true"] ++ List.replicate m sInput).length; simp
    big := by show m + 2 ≤ ([Str.ofString "", Str.ofString "true"] ++ List.replicate m sInput).length; simp
    p0 := ⟨rfl, rfl⟩
    p1 := ⟨rfl, rfl⟩
    inp := fun k h2 hk => by
      refine ⟨?_, ?_⟩
      · show ([Str.ofString "", Str.ofString "true"] ++ List.replicate m sInput)[k]? = _
        rw [List.getElem?_append_right (by simpa using h2), List.getElem?_replicate, if_pos (by show k - 2 < m; lia)]
      · show ([[], []] ++ List.replicate m ([] : List Int))[k]? = _
        rw [List.getElem?_append_right (by simpa using h2), List.getElem?_replicate, if_pos (by show k - 2 < m; lia)]
    gate := fun k h2 hk => by
      have : ([Str.ofString "", Str.ofString "true"] ++ List.replicate m sInput).length = m + 2 := by simp
      have hk' : k < ([Str.ofString "", Str.ofString "true"] ++ List.replicate m sInput).length := hk
      lia
    known := fun p n h => by cases h
    knlen := Nat.zero_le _ }
  inputs := rfl
  ready := rfl
  m1 := hm
  m3 := hm3
theorem Wd.still {m : Nat} {g : G} (h : Wd m g) : Wd m { g with done := true } :=
  ⟨⟨h.inv.len, h.inv.big, h.inv.p0, h.inv.p1, h.inv.inp, h.inv.gate, h.inv.known, h.inv.knlen⟩, h.inputs, h.ready, h.m1, h.m3⟩

theorem f_plus (c : Cx) : CallS c 7 (.ref 70) S_plus := by
  refine' callS_intro ?kk ?ho ?hcd ?hbind ?hkind ?hfree ?hco ?hgen ?hk ?hB ?hS
  case ho => (show (hd.heap_39 _).lookup _ = _; with_unfolding_all rfl)
  case hcd => kernel_rfl
  case hkind => rfl
  case hfree => rfl
  case hco => rfl
  case hgen => rfl
  case hk => rfl
  case kk => exact 3
  case hbind => (intro xs hx; obtain ⟨a, b, d, ee⟩ := len3 hx; subst ee; rfl)
  case hB =>
    repeat' first
      | (with_reducible refine' s_nil)
      | (with_reducible refine' s_cons ?_ ?_)
      | (with_reducible refine' s_ret ?_)
      | ((with_reducible refine' e_glob (i := -1) ?h1 ?h2 ?h3); (case h1 | h2 | h3 => (intros; with_unfolding_all rfl)))
      | ((with_reducible refine' e_name2 ?h1 ?h2); (case h1 | h2 => (intros; with_unfolding_all rfl)))
      | (with_reducible refine' a_nil)
      | ((with_reducible refine' a_cons ?_ ?_ ?h1); (case h1 => (intros; with_unfolding_all rfl)))
      | ((with_reducible refine' e_meth (k := .bin) ?_ ?hC ?hm ?_ ?h1 ?h2 ?h3 ?h4 ?h5 ?h6); (case h1 => with_unfolding_all rfl); (case hC => (first | exact f_added _)); (case hm => decide); (case h2 => kernel_rfl); (case h3 => kernel_rfl); (case h4 | h5 | h6 => (intros; with_unfolding_all rfl)))
  rintro args g P ⟨m, a, b, rfl, hI, ha, hb, la, lb, hcap, hP⟩
  refine ⟨rfl, ?_⟩
  walk_at "mine vc"
  refine ⟨m, a, b, -1, rfl, hI, ha, hb, la, lb, gate_mone hI, hcap, fun r g' hE hI' hr hl hv => hP r g' hE hI' hr hl fun row => ?_⟩
  rw [hv row, lit_mone hI']; simp [b2i]

theorem f_less (c : Cx) : CallS c 7 (.ref 75) S_less := by
  refine' callS_intro ?kk ?ho ?hcd ?hbind ?hkind ?hfree ?hco ?hgen ?hk ?hB ?hS
  case ho => (show (hd.heap_39 _).lookup _ = _; with_unfolding_all rfl)
  case hcd => kernel_rfl
  case hkind => rfl
  case hfree => rfl
  case hco => rfl
  case hgen => rfl
  case hk => rfl
  case kk => exact 3
  case hbind => (intro xs hx; obtain ⟨a, b, d, ee⟩ := len3 hx; subst ee; rfl)
  case hB =>
    repeat' first
      | (with_reducible refine' s_nil)
      | (with_reducible refine' s_cons ?_ ?_)
      | (with_reducible refine' s_ret ?_)
      | ((with_reducible refine' e_glob (i := 1) ?h1 ?h2 ?h3); (case h1 | h2 | h3 => (intros; with_unfolding_all rfl)))
      | ((with_reducible refine' e_name2 ?h1 ?h2); (case h1 | h2 => (intros; with_unfolding_all rfl)))
      | (with_reducible refine' e_neg ?_)
      | (with_reducible refine' a_nil)
      | ((with_reducible refine' a_cons ?_ ?_ ?h1); (case h1 => (intros; with_unfolding_all rfl)))
      | (with_reducible refine' i_nil)
      | (with_reducible refine' i_val ?_)
      | ((with_reducible refine' e_comp ?ht ?_ ?_ ?_ ?h1 ?h2 ?h3 ?h4); (case ht => walk_at "mine tgt"); (case h2 => decide); (case h1 | h3 | h4 => (intros; with_unfolding_all rfl)))
      | ((with_reducible refine' e_call ?hfe ?hC ?hm ?_ ?h1 ?h2); (case hfe => walk_at "mine callee"); (case hC => (first | exact f_added _ | exact c_tuple)); (case hm => decide); (case h1 | h2 => (intros; with_unfolding_all rfl)))
      | ((with_reducible refine' e_meth (k := .bin) ?_ ?hC ?hm ?_ ?h1 ?h2 ?h3 ?h4 ?h5 ?h6); (case h1 => with_unfolding_all rfl); (case hC => (first | exact f_added _ | exact c_tuple)); (case hm => decide); (case h2 => kernel_rfl); (case h3 => kernel_rfl); (case h4 | h5 | h6 => (intros; with_unfolding_all rfl)))
  rintro args g P ⟨m, a, b, rfl, hI, ha, hb, la, lb, hcap, hP⟩
  refine ⟨rfl, ?_⟩
  walk_at "mine vc"
  rw [List.map_map]
  refine compT_map b _ (fun x => .int (-x)) (fun st => st.g = g) ?_ ?_ _ rfl
  · rintro x hx acc st rec hK hrec
    replace hrec : Hide _ := hrec
    show (fun st1 => _) (St.set st (Str.ofString "g") (V.int x))
    walk_at "mine vs"
    exact hrec _ hK
  · rintro st hK
    rw [hK]
    have hb' := hb.neg
    refine ⟨m, a, b.map fun x => -x, 1, by simp, hI, ha, hb', la, by simpa using lb, gate_one hI, hcap, fun r g' hE hI' hr hl hv => hP r g' hE hI' hr (by simpa using hl) fun row => ?_⟩
    rw [hv row, lit_one hI', num_neg hI' (hb.ext hE)]; simp [b2i]; lia

theorem f_constant (c : Cx) : CallS c 1 (.ref 56) S_constant := by
  refine' callS_intro ?kk ?ho ?hcd ?hbind ?hkind ?hfree ?hco ?hgen ?hk ?hB ?hS
  case ho => (show (hd.heap_39 _).lookup _ = _; with_unfolding_all rfl)
  case hcd => kernel_rfl
  case hkind => rfl
  case hfree => rfl
  case hco => rfl
  case hgen => rfl
  case hk => rfl
  case kk => exact 2
  case hbind => (intro xs hx; obtain ⟨a, b, ee⟩ := len2 hx; subst ee; rfl)
  case hB =>
    repeat' first
      | (with_reducible refine' s_nil)
      | (with_reducible refine' s_cons ?_ ?_)
      | (with_reducible refine' s_ret ?_)
      | (with_reducible refine' s_while ?_ ?_)
      | (with_reducible refine' e_int)
      | ((with_reducible refine' e_glob (i := 1) ?h1 ?h2 ?h3); (case h1 | h2 | h3 => (intros; with_unfolding_all rfl)))
      | ((with_reducible refine' e_glob (i := -1) ?h1 ?h2 ?h3); (case h1 | h2 | h3 => (intros; with_unfolding_all rfl)))
      | ((with_reducible refine' e_name2 ?h1 ?h2); (case h1 | h2 => (intros; with_unfolding_all rfl)))
      | (with_reducible refine' e_if ?_ ?_ ?_)
      | (with_reducible refine' t_and ?_ ?_)
      | ((with_reducible refine' ot_c_eq ?_ ?_ ?h1); (case h1 => with_unfolding_all rfl))
      | ((with_reducible refine' ot_c_ne ?_ ?_ ?h1); (case h1 => with_unfolding_all rfl))
      | (with_reducible refine' e_neg ?_)
      | (with_reducible refine' o_b_add2 ?_ ?_)
      | (with_reducible refine' o_b_mod ?_ ?_)
      | (with_reducible refine' o_b_div ?_ ?_)
      | (with_reducible refine' a_nil)
      | ((with_reducible refine' a_cons ?_ ?_ ?h1); (case h1 => (intros; with_unfolding_all rfl)))
      | (with_reducible refine' e_lst ?_)
      | ((with_reducible refine' e_call ?hfe ?hC ?hm ?_ ?h1 ?h2); (case hfe => walk_at "mine callee"); (case hC => (first | exact c_tuple)); (case hm => decide); (case h1 | h2 => (intros; with_unfolding_all rfl)))
      | ((with_reducible refine' e_append ?_ ?h1 ?h2 ?h3 ?h4); (case h1 | h2 | h3 | h4 => (intros; with_unfolding_all rfl)))
      | ((with_reducible refine' s_ownlst ?_ ?h1 ?h2); (case h1 => first | exact .inl rfl | exact .inr rfl); (case h2 => (intros; with_unfolding_all rfl)))
      | ((with_reducible refine' s_asgn ?_ ?h1 ?h2); (case h1 => first | exact .inl rfl | exact .inr rfl); (case h2 => walk_at "mine plain"))
      | ((with_reducible refine' s_expr ?_ ?h2); (case h2 => (intros; with_unfolding_all rfl)))
  rintro args g P ⟨k, w, rfl, hk1, hk2, hw, hP⟩
  refine ⟨rfl, ?_⟩
  walk_at "mine vc"
  intro ad
  walk_at "mine vc"
  refine ⟨w + 1, ?_⟩
  refine whT_inv (fun n st => ∃ (L : Str → Option V) (fs : List Int) (kc : Int) (e : Nat), st = ⟨L, .lst (Str.ofString "found") ad (fs.map .int) true, g⟩ ∧ L (Str.ofString "k") = some (.int kc) ∧ L (Str.ofString "found") = none ∧
    n = e + 1 ∧ -(2 ^ e : Int) ≤ kc ∧ kc < 2 ^ e ∧ fs.length + e = w ∧ (∀ x ∈ fs, x = 1 ∨ x = -1) ∧ full (fs.map fun x => decide (x = 1)) kc = k) ?_ ?_ _ _ ?_
  · rintro st ⟨L, fs, kc, e, rfl, hLk, hLf, hn, _⟩; lia
  · rintro n st rec hrec ⟨L, fs, kc, e, rfl, hLk, hLf, hn, h1, h2, hlen, hfs, hful⟩
    replace hrec : Hide _ := hrec
    dsimp only
    have done : kc = 0 ∨ kc = -1 → P (.tup ((fs ++ [if kc = 0 then -1 else 1]).map .int)) g := by
      intro hz
      have hz' : ∀ x ∈ fs ++ [if kc = 0 then (-1 : Int) else 1], x = 1 ∨ x = -1 := by
        intro x hx
        rcases List.mem_append.mp hx with hx | hx
        · exact hfs x hx
        · rw [List.mem_singleton.mp hx]; by_cases h0 : kc = 0 <;> simp [h0]
      refine hP _ (by simp) hz' (by simp; lia) fun m g row hI => ?_
      rw [num_full, ← hful]
      congr 1
      · apply List.map_congr_left
        intro x hx
        exact settled_lit hI row (hfs x hx)
      · rcases hz with rfl | rfl
        · rw [if_pos rfl, lit_mone hI]; rfl
        · rw [if_neg (by decide), lit_one hI]; rfl
    have sz : (List.map V.int fs).length + 1 ≤ sizeLine := by rw [List.length_map]; show _ ≤ 16777216; lia
    by_cases k0 : kc = 0
    · have dn := done (.inl k0)
      rw [if_pos k0, List.map_append] at dn
      walk_at "mine vs"
      exact ⟨sz, dn⟩
    · by_cases k1 : kc = -1
      · have dn := done (.inr k1)
        rw [if_neg k0, List.map_append] at dn
        walk_at "mine vs"
        exact ⟨sz, dn⟩
      · have f1 : kc.fmod 2 = kc % 2 := Int.fmod_eq_emod_of_nonneg _ (by decide)
        have f2 : kc.fdiv 2 = kc / 2 := Int.fdiv_eq_ediv_of_nonneg _ (by decide)
        have he : e ≠ 0 := by
          intro e0; subst e0
          have h1' : (-1 : Int) ≤ kc := h1
          have h2' : kc < 1 := h2
          lia
        obtain ⟨e', rfl⟩ : ∃ e', e = e' + 1 := ⟨e - 1, by lia⟩
        have hp : (2 : Int) ^ (e' + 1) = 2 * 2 ^ e' := by rw [Int.pow_succ, Int.mul_comm]
        rw [hp] at h1 h2
        have hb : kc.natAbs < 2 ^ 30 := by
          have : (2 : Int) ^ e' ≤ 2 ^ 20 := by
            have := Nat.pow_le_pow_right (n := 2) (by decide) (show e' ≤ 20 by lia)
            exact_mod_cast this
          lia
        have key : ∀ z : Int, z = 1 ∨ z = -1 → (b2i (decide (z = 1)) + 2 * (kc / 2) = kc) → rec (({ loc := L, own := Own.lst (Str.ofString "found") ad (List.map V.int fs ++ [V.int z]) true, g := g } : St).set (Str.ofString "k") (V.int (kc / 2))) := by
          intro z hz hzz
          refine hrec _ ⟨_, fs ++ [z], kc / 2, e', by rw [List.map_append]; rfl, ?_, ?_, by lia, by lia, by lia, by simp; lia, ?_, ?_⟩
          · simp (decide := true) only [v_set_loc, if_true]
          · simp (decide := true) only [v_set_loc, if_false]; exact hLf
          · intro x hx
            rcases List.mem_append.mp hx with hx | hx
            · exact hfs x hx
            · rw [List.mem_singleton.mp hx]; exact hz
          · rw [List.map_append, List.map_cons, List.map_nil, full_snoc, hzz]; exact hful
        replace key : Hide _ := key
        by_cases h2m : kc % 2 = 1
        · walk_at "mine vs"
          exact (show ∀ z : Int, _ from key) 1 (.inl rfl) (by simp [b2i]; lia)
        · walk_at "mine vs"
          exact (show ∀ z : Int, _ from key) (-1) (.inr rfl) (by simp [b2i]; lia)
  · exact ⟨_, [], k, w, rfl, rfl, rfl, rfl, hk1, hk2, by simp, by simp, rfl⟩

theorem f_negated (c : Cx) : CallS c 8 (.ref 82) S_negated := by
  refine' callS_intro ?kk ?ho ?hcd ?hbind ?hkind ?hfree ?hco ?hgen ?hk ?hB ?hS
  case ho => (show (hd.heap_39 _).lookup _ = _; with_unfolding_all rfl)
  case hcd => kernel_rfl
  case hkind => rfl
  case hfree => rfl
  case hco => rfl
  case hgen => rfl
  case hk => rfl
  case kk => exact 2
  case hbind => (intro xs hx; obtain ⟨a, b, ee⟩ := len2 hx; subst ee; rfl)
  case hB =>
    repeat' first
      | (with_reducible refine' s_nil)
      | (with_reducible refine' s_cons ?_ ?_)
      | (with_reducible refine' s_ret ?_)
      | (with_reducible refine' e_int)
      | ((with_reducible refine' e_name2 ?h1 ?h2); (case h1 | h2 => (intros; with_unfolding_all rfl)))
      | (with_reducible refine' a_nil)
      | ((with_reducible refine' a_cons ?_ ?_ ?h1); (case h1 => (intros; with_unfolding_all rfl)))
      | ((with_reducible refine' e_meth (k := .bin) ?_ ?hC ?hm ?_ ?h1 ?h2 ?h3 ?h4 ?h5 ?h6); (case h1 => with_unfolding_all rfl); (case hC => (first | exact f_less _ | exact f_constant _)); (case hm => decide); (case h2 => kernel_rfl); (case h3 => kernel_rfl); (case h4 | h5 | h6 => (intros; with_unfolding_all rfl)))
  rintro args g P ⟨m, a, rfl, hI, ha, la, hcap, hP⟩
  refine ⟨rfl, ?_⟩
  walk_at "mine vc"
  refine ⟨0, 0, rfl, by decide, by decide, by decide, fun z hz hs hl hv => ?_⟩
  walk_at "mine vc"
  have hl1 : z.length ≤ 1 := hl
  refine ⟨m, z, a, rfl, hI, settled_num hI hz hs, ha, by lia, la, hcap, fun r g' hE hI' hr hrl hrv => hP r g' hE hI' hr ?_ fun row => ?_⟩
  · have := List.length_pos_iff.mpr ha.1; lia
  · rw [hrv row, hv m g' row hI']; lia

theorem f_total (c : Cx) : CallS c 8 (.ref 87) S_total := by
  refine' callS_intro ?kk ?ho ?hcd ?hbind ?hkind ?hfree ?hco ?hgen ?hk ?hB ?hS
  case ho => (show (hd.heap_39 _).lookup _ = _; with_unfolding_all rfl)
  case hcd => kernel_rfl
  case hkind => rfl
  case hfree => rfl
  case hco => rfl
  case hgen => rfl
  case hk => rfl
  case kk => exact 2
  case hbind => (intro xs hx; obtain ⟨a, b, ee⟩ := len2 hx; subst ee; rfl)
  case hB =>
    repeat' first
      | (with_reducible refine' s_nil)
      | (with_reducible refine' s_cons ?_ ?_)
      | (with_reducible refine' s_ret ?_)
      | (with_reducible refine' s_while ?_ ?_)
      | (with_reducible refine' e_int)
      | ((with_reducible refine' e_name2 ?h1 ?h2); (case h1 | h2 => (intros; with_unfolding_all rfl)))
      | (with_reducible refine' e_if ?_ ?_ ?_)
      | ((with_reducible refine' ot_c_gt ?_ ?_ ?h1); (case h1 => with_unfolding_all rfl))
      | ((with_reducible refine' ot_c_eq ?_ ?_ ?h1); (case h1 => with_unfolding_all rfl))
      | (with_reducible refine' o_b_add2 ?_ ?_)
      | (with_reducible refine' o_b_sub ?_ ?_)
      | (with_reducible refine' o_b_mod ?_ ?_)
      | (with_reducible refine' e_from ?_ ?_)
      | ((with_reducible refine' e_subn ?_ ?h1 ?h2 ?h3); (case h1 | h2 | h3 => (intros; with_unfolding_all rfl)))
      | (with_reducible refine' a_nil)
      | ((with_reducible refine' a_cons ?_ ?_ ?h1); (case h1 => (intros; with_unfolding_all rfl)))
      | (with_reducible refine' i_nil)
      | (with_reducible refine' i_val ?_)
      | ((with_reducible refine' e_call ?hfe ?hC ?hm ?_ ?h1 ?h2); (case hfe => walk_at "mine callee"); (case hC => (first | exact c_list | exact c_len | exact c_range | exact f_plus _ | exact f_constant _)); (case hm => decide); (case h1 | h2 => (intros; with_unfolding_all rfl)))
      | ((with_reducible refine' e_meth (k := .bin) ?_ ?hC ?hm ?_ ?h1 ?h2 ?h3 ?h4 ?h5 ?h6); (case h1 => with_unfolding_all rfl); (case hC => (first | exact c_list | exact c_len | exact c_range | exact f_plus _ | exact f_constant _)); (case hm => decide); (case h2 => kernel_rfl); (case h3 => kernel_rfl); (case h4 | h5 | h6 => (intros; with_unfolding_all rfl)))
      | ((with_reducible refine' s_comp ?ht ?_ ?_ ?_ ?h1 ?h2 ?h3 ?h4 ?h5 ?h6); (case h5 => with_unfolding_all rfl); (case h6 => walk_at "mine swap"); (case ht => walk_at "mine tgt"); (case h2 => decide); (case h1 | h3 | h4 => (intros; with_unfolding_all rfl)))
      | ((with_reducible refine' s_asgn ?_ ?h1 ?h2); (case h1 => first | exact .inl rfl | exact .inr rfl); (case h2 => walk_at "mine plain"))
  rintro args g P ⟨m, w, nss, rfl, hI, hn, hlen, w1, w2, hcap, hP⟩
  refine ⟨rfl, ?_⟩
  walk_at "mine vc"
  refine ⟨nss.length + 1, ?_⟩
  refine whT_inv (fun n st => ∃ (L : Str → Option V) (gi : G) (rs : List (List Int)) (e : Nat), st = ⟨L, .none, gi⟩ ∧ L (Str.ofString "self") = some (.obj .bin) ∧ L (Str.ofString "row") = some (.lst (rs.map tupV)) ∧
    rs.length + 1 ≤ n ∧ rs.length ≤ 2 ^ e ∧ e ≤ 2 ∧ rs.length ≤ nss.length ∧ Ext g gi (400 * (nss.length - rs.length)) ∧ Inv m gi ∧ (∀ ns ∈ rs, Num gi ns ∧ ns.length ≤ w + 2 - e) ∧ (rs = [] → nss = []) ∧ (∀ row, (rs.map (num gi row)).sum = (nss.map (num g row)).sum)) ?_ ?_ _ _ ?_
  · rintro st ⟨L, gi, rs, e, rfl, hs, hr, hn, _⟩; lia
  · rintro n st rec hrec ⟨L, gi, rs, e, rfl, hs, hr, hn1, h2, he, hle, hE, hIi, hns, hnil, hsum⟩
    have hll : (rs.map tupV).length = rs.length := List.length_map ..
    have hE4 : Ext g gi 1600 := hE.le (by lia)
    have hsum' : ∀ row, (rs.map (num gi row)).sum = (nss.map (num gi row)).sum := fun row => by
      rw [hsum row]; congr 1
      exact List.map_congr_left fun ns h => (num_ext hI hE4 (hn ns h).1 row).symm
    replace hrec : Hide _ := hrec
    have hPP := hP
    replace hP : Hide _ := hP
    have ll := hE.len
    dsimp only
    by_cases hbig : 1 < rs.length
    · have hb' : (1 : Int) < (rs.length : Int) := by lia
      have he0 : e ≠ 0 := by intro h; subst h; simp at h2; lia
      obtain ⟨e', rfl⟩ : ∃ e', e = e' + 1 := ⟨e - 1, by lia⟩
      have hfm : (rs.length : Int).fmod 2 = ((rs.length % 2 : Nat) : Int) := by rw [Int.fmod_eq_emod_of_nonneg _ (by decide)]; lia
      have hdr : ((rs.length : Int) - ((rs.length % 2 : Nat) : Int)).toNat = 2 * (rs.length / 2) := by lia
      clear hPP
      walk_at "mine vs"
      rw [rng2_size (by lia), rng2_nat (by lia)]
      refine ⟨by lia, small_two (by lia), by show _ ≤ 16777216; lia, ?_⟩
      refine compT_idx (fun i acc st => ∃ (L' : Str → Option V) (gj : G) (rs' : List (List Int)), acc = rs'.map tupV ∧ st = ⟨L', .none, gj⟩ ∧ L' (Str.ofString "self") = some (.obj .bin) ∧ L' (Str.ofString "row") = some (.lst (rs.map tupV)) ∧
        rs'.length = i ∧ Ext gi gj (400 * i) ∧ Inv m gj ∧ (∀ ns ∈ rs', Num gj ns ∧ ns.length ≤ w + 2 - (e' + 1) + 1) ∧ (∀ row, (rs'.map (num gj row)).sum = ((rs.take (2 * i)).map (num gi row)).sum)) ?_ ?_ _ _ ?_
      · rintro i it acc st rec' hit hrec' ⟨L', gj, rs', rfl, rfl, hs', hr', hlen', hEj, hIj, hns', hsum''⟩
        replace hrec' : Hide _ := hrec'
        have hi : i < rs.length / 2 := by
          have := (List.getElem?_eq_some_iff.mp hit).1; simpa using this
        obtain rfl : it = .one (.int ((2 * i : Nat) : Int)) := by simp [hi] at hit; rw [← hit]; simp
        clear hit
        have i1 : 2 * i < rs.length := by lia
        have i2 : 2 * i + 1 < rs.length := by lia
        have q1 := hns _ (List.getElem_mem i1)
        have q2 := hns _ (List.getElem_mem i2)
        have lj := hEj.len
        walk_at "mine vs"
        refine ⟨_, ix_nat _ _ (by rw [hll]; exact i1), ?_⟩
        refine ⟨_, by rw [show (((2 * i : Nat) : Int) + 1) = ((2 * i + 1 : Nat) : Int) by lia]; exact ix_nat _ _ (by rw [hll]; exact i2), ?_⟩
        refine ⟨m, rs[2 * i], rs[2 * i + 1], by simp [tupV], hIj, q1.1.ext hEj, q2.1.ext hEj, by lia, by lia, by lia, fun r g' hE' hI' hr hl hv => ?_⟩
        have EE := hEj.trans hE'
        refine hrec' _ _ ⟨_, g', rs' ++ [r], by rw [List.map_append]; rfl, rfl, hs', hr', by simp [hlen'], EE.le (by lia), hI', ?_, fun row => ?_⟩
        · intro ns h
          rcases List.mem_append.mp h with h | h
          · exact ⟨(hns' ns h).1.ext hE', (hns' ns h).2⟩
          · rw [List.mem_singleton.mp h]; exact ⟨hr, by lia⟩
        · rw [show 2 * (i + 1) = 2 * i + 1 + 1 by lia, List.take_add_one, List.take_add_one, List.getElem?_eq_getElem i1, List.getElem?_eq_getElem i2]
          simp only [List.map_append, List.sum_append, List.map_cons, List.map_nil, List.sum_cons, List.sum_nil, Option.toList]
          rw [← hsum'' row, hv row, num_ext hIi EE q1.1, num_ext hIi EE q2.1]
          have : rs'.map (num g' row) = rs'.map (num gj row) := List.map_congr_left fun ns h => num_ext hIj hE' (hns' ns h).1 row
          rw [this]; lia
      · rintro acc st ⟨L', gj, rs', rfl, rfl, hs', hr', hlen', hEj, hIj, hns', hsum''⟩
        have hlr : rs'.length = rs.length / 2 := by simpa using hlen'
        have hEj' : Ext gi gj (400 * (rs.length / 2)) := by rw [← hlr]; exact hlen' ▸ hEj
        walk_at "mine vs"
        rw [← List.map_drop, ← List.map_append]
        have hnl : (rs' ++ rs.drop (2 * (rs.length / 2))).length = rs.length / 2 + rs.length % 2 := by rw [List.length_append, List.length_drop, hlr]; lia
        refine ⟨by lia, by rw [List.length_map, List.length_map, List.length_drop]; show _ ≤ 16777216; lia, ?_⟩
        walk_at "mine vs"
        refine hrec _ ⟨_, gj, rs' ++ rs.drop (2 * (rs.length / 2)), e', rfl, ?_, ?_, by lia, ?_, by lia, by lia, (hE.trans hEj').le (by lia), hIj, ?_, ?_, fun row => ?_⟩
        · simp (decide := true) only [v_set_loc, if_false]; exact hs
        · simp (decide := true) only [v_set_loc, if_true]
        · rw [hnl]; rw [Nat.pow_succ] at h2; lia
        · intro ns h
          rcases List.mem_append.mp h with h | h
          · exact ⟨(hns' ns h).1, by have := (hns' ns h).2; lia⟩
          · have := hns ns (List.mem_of_mem_drop h)
            exact ⟨this.1.ext hEj', by lia⟩
        · intro h
          have := congrArg List.length h
          rw [hnl, List.length_nil] at this; lia
        · rw [← hsum row, List.map_append, List.sum_append, hsum'' row]
          have e1 : (rs.drop (2 * (rs.length / 2))).map (num gj row) = (rs.drop (2 * (rs.length / 2))).map (num gi row) := List.map_congr_left fun ns h => num_ext hIi hEj' (hns ns (List.mem_of_mem_drop h)).1 row
          have e2 : 2 * (List.map (fun k : Nat => It.one (V.int ((2 * k : Nat) : Int))) (List.range (rs.length / 2))).length = 2 * (rs.length / 2) := by simp
          rw [e1, e2, ← List.sum_append, ← List.map_append, List.take_append_drop]
      · refine ⟨_, gi, [], rfl, rfl, ?_, ?_, rfl, (Ext.refl gi).le (by lia), hIi, by simp, fun row => by simp⟩
        · simp (decide := true) only [v_inner_loc, if_true]; exact hs
        · simp (decide := true) only [v_inner_loc, if_true]; exact hr
    · have hb' : ¬ (1 : Int) < (rs.length : Int) := by lia
      by_cases h1 : rs.length = 1
      · have h1' : (rs.length : Int) = 1 := by lia
        replace hPP : Hide _ := hPP
        walk_at "mine vs"
        obtain ⟨r, rfl⟩ := List.length_eq_one_iff.mp h1
        have q := hns r (by simp)
        refine ⟨tupV r, rfl, ?_⟩
        refine hP r gi hE4 hIi q.1 (by have := q.2; lia) fun row => ?_
        rw [← hsum' row]; simp
      · have h1' : ¬ (rs.length : Int) = 1 := by lia
        have h0 : rs = [] := List.length_eq_zero_iff.mp (by lia)
        have hn0 := hnil h0
        replace hPP : Hide _ := hPP
        replace h0 : Hide _ := h0
        replace hn0 : Hide _ := hn0
        walk_at "mine vs"
        refine ⟨0, 0, rfl, by decide, by decide, by decide, fun z hz hst hl hv => ?_⟩
        refine hP z gi hE4 hIi (settled_num hIi hz hst) (by have : z.length ≤ 1 := hl; lia) fun row => ?_
        rw [hv m gi row hIi, show nss = [] from hn0]; rfl
  · refine ⟨_, g, nss, 2, rfl, rfl, rfl, Nat.le_refl _, by simpa using hlen, by decide, Nat.le_refl _, (Ext.refl g).le (by lia), hI, fun ns h => ⟨(hn ns h).1, by have := (hn ns h).2; lia⟩, id, fun row => rfl⟩

theorem gate_num {m : Nat} {g : G} (hI : Inv m g) {x : Int} (hx : Gate g x) (row : Nat) : num g row [x, -1] = b2i (lit g row x) := by
  show b2i (lit g row x) + 2 * (- b2i (lit g row (-1))) = _
  rw [lit_mone hI]; simp [b2i]
theorem f_of_gates (c : Cx) : CallS c 9 (.ref 92) S_of_gates := by
  refine' callS_intro ?kk ?ho ?hcd ?hbind ?hkind ?hfree ?hco ?hgen ?hk ?hB ?hS
  case ho => (show (hd.heap_39 _).lookup _ = _; with_unfolding_all rfl)
  case hcd => kernel_rfl
  case hkind => rfl
  case hfree => rfl
  case hco => rfl
  case hgen => rfl
  case hk => rfl
  case kk => exact 2
  case hbind => (intro xs hx; obtain ⟨a, b, ee⟩ := len2 hx; subst ee; rfl)
  case hB =>
    repeat' first
      | (with_reducible refine' s_nil)
      | (with_reducible refine' s_cons ?_ ?_)
      | (with_reducible refine' s_ret ?_)
      | ((with_reducible refine' e_glob (i := -1) ?h1 ?h2 ?h3); (case h1 | h2 | h3 => (intros; with_unfolding_all rfl)))
      | ((with_reducible refine' e_name2 ?h1 ?h2); (case h1 | h2 => (intros; with_unfolding_all rfl)))
      | (with_reducible refine' a_nil)
      | ((with_reducible refine' a_cons ?_ ?_ ?h1); (case h1 => (intros; with_unfolding_all rfl)))
      | (with_reducible refine' e_tup ?_)
      | (with_reducible refine' i_nil)
      | (with_reducible refine' i_val ?_)
      | ((with_reducible refine' e_comp ?ht ?_ ?_ ?_ ?h1 ?h2 ?h3 ?h4); (case ht => walk_at "mine tgt"); (case h2 => decide); (case h1 | h3 | h4 => (intros; with_unfolding_all rfl)))
      | ((with_reducible refine' e_call ?hfe ?hC ?hm ?_ ?h1 ?h2); (case hfe => walk_at "mine callee"); (case hC => (first | exact f_total _ | exact f_trimmed _)); (case hm => decide); (case h1 | h2 => (intros; with_unfolding_all rfl)))
      | ((with_reducible refine' e_meth (k := .bin) ?_ ?hC ?hm ?_ ?h1 ?h2 ?h3 ?h4 ?h5 ?h6); (case h1 => with_unfolding_all rfl); (case hC => (first | exact f_total _ | exact f_trimmed _)); (case hm => decide); (case h2 => kernel_rfl); (case h3 => kernel_rfl); (case h4 | h5 | h6 => (intros; with_unfolding_all rfl)))
  rintro args g P ⟨m, gs, rfl, hI, hg, hlen, hcap, hP⟩
  refine ⟨rfl, ?_⟩
  walk_at "mine vc"
  rw [List.map_map]
  have h2 : ∀ x : Int, Gate g x → ∀ k, 1 ≤ k → k ≤ [x, -1].length → Num g ([x, -1].take k) := fun x hx k k1 k2 => ⟨by intro e; have := congrArg List.length e; rw [List.length_take, List.length_nil] at this; lia, fun y hy => by
    have := List.mem_of_mem_take hy
    simp at this
    rcases this with rfl | rfl
    · exact hx
    · exact gate_mone hI⟩
  refine compT_inv (fun r acc st => ∃ (pre rem : List Int) (nss : List (List Int)), gs = pre ++ rem ∧ r = rem.map (It.one ∘ V.int) ∧ acc = nss.map tupV ∧ st.g = g ∧ nss.length = pre.length ∧ (∀ ns ∈ nss, Num g ns ∧ ns.length ≤ 2) ∧ ∀ row, nss.map (num g row) = pre.map fun x => b2i (lit g row x)) ?_ ?_ _ _ _ ?_
  · rintro it r acc st rec hrec ⟨pre, rem, nss, hgs, hr, rfl, hst, hln, hns, hv⟩
    cases rem with
    | nil => cases hr
    | cons x rem =>
      cases hr
      have hx := hg x (by rw [hgs]; simp)
      replace hrec : Hide _ := hrec
      replace hP : Hide _ := hP
      show (fun st1 => _) (St.set st (Str.ofString "g") (V.int x))
      walk_at "mine vs"
      refine ⟨by show 2 ≤ 16777216; lia, [x, -1], .inl rfl, by simp, fun k k1 k2 k3 => ?_⟩
      refine hrec _ _ ⟨pre ++ [x], rem, nss ++ [[x, -1].take k], by rw [hgs]; simp, rfl, by rw [List.map_append]; rfl, rfl, by simp [hln], ?_, fun row => ?_⟩
      · intro ns h
        rcases List.mem_append.mp h with h | h
        · exact hns ns h
        · rw [List.mem_singleton.mp h]; exact ⟨h2 x hx k k1 k2, by rw [List.length_take]; simp; lia⟩
      · rw [List.map_append, List.map_append, hv row]
        simp only [List.map_cons, List.map_nil]
        rw [num_take row k1 k2 k3, gate_num hI hx]
  · rintro acc st ⟨pre, rem, nss, hgs, hr, rfl, hst, hln, hns, hv⟩
    have : rem = [] := by cases rem <;> first | rfl | cases hr
    subst this
    rw [List.append_nil] at hgs; subst hgs
    rw [hst]
    refine ⟨m, 2, nss, rfl, hI, hns, by lia, by decide, by decide, hcap, fun r g' hE hI' hr hl hval => hP r g' hE hI' hr hl fun row => ?_⟩
    rw [hval row]
    congr 1
    have e1 : nss.map (num g' row) = nss.map (num g row) := List.map_congr_left fun ns h => num_ext hI hE (hns ns h).1 row
    rw [e1, hv row]
    exact List.map_congr_left fun x hx => by rw [lit_ext hI hE (hg x hx)]
  · exact ⟨[], gs, [], rfl, rfl, rfl, rfl, rfl, by simp, fun row => rfl⟩

theorem f_chosen (c : Cx) : CallS c 5 (.ref 111) S_chosen := by
  refine' callS_intro ?kk ?ho ?hcd ?hbind ?hkind ?hfree ?hco ?hgen ?hk ?hB ?hS
  case ho => (show (hd.heap_39 _).lookup _ = _; with_unfolding_all rfl)
  case hcd => kernel_rfl
  case hkind => rfl
  case hfree => rfl
  case hco => rfl
  case hgen => rfl
  case hk => rfl
  case kk => exact 4
  case hbind => (intro xs hx; obtain ⟨a, b, d, e, ee⟩ := len4 hx; subst ee; rfl)
  case hB =>
    repeat' first
      | (with_reducible refine' s_nil)
      | (with_reducible refine' s_cons ?_ ?_)
      | (with_reducible refine' s_ret ?_)
      | ((with_reducible refine' e_name2 ?h1 ?h2); (case h1 | h2 => (intros; with_unfolding_all rfl)))
      | ((with_reducible refine' e_attr ?_ ?h1); (case h1 => (intros; with_unfolding_all rfl)))
      | (with_reducible refine' a_nil)
      | ((with_reducible refine' a_cons ?_ ?_ ?h1); (case h1 => (intros; with_unfolding_all rfl)))
      | (with_reducible refine' i_nil)
      | (with_reducible refine' i_val ?_)
      | ((with_reducible refine' e_comp ?ht ?_ ?_ ?_ ?h1 ?h2 ?h3 ?h4); (case ht => walk_at "mine tgt"); (case h2 => decide); (case h1 | h3 | h4 => (intros; with_unfolding_all rfl)))
      | ((with_reducible refine' e_call ?hfe ?hC ?hm ?_ ?h1 ?h2); (case hfe => walk_at "mine callee"); (case hC => (first | exact c_max | exact c_len | exact f_trimmed _ | exact c_range | exact f_choose _ | exact f_place_of _)); (case hm => decide); (case h1 | h2 => (intros; with_unfolding_all rfl)))
      | ((with_reducible refine' e_meth (k := .circ) ?_ ?hC ?hm ?_ ?h1 ?h2 ?h3 ?h4 ?h5 ?h6); (case h1 => with_unfolding_all rfl); (case hC => (first | exact c_max | exact c_len | exact f_trimmed _ | exact c_range | exact f_choose _ | exact f_place_of _)); (case hm => decide); (case h2 => kernel_rfl); (case h3 => kernel_rfl); (case h4 | h5 | h6 => (intros; with_unfolding_all rfl)))
      | ((with_reducible refine' s_asgn ?_ ?h1 ?h2); (case h1 => first | exact .inl rfl | exact .inr rfl); (case h2 => walk_at "mine plain"))
  rintro args g P ⟨m, t, a, b, rfl, hI, ht, ha, hb, la, lb, hcap, hP⟩
  refine ⟨rfl, ?_⟩
  walk_at "mine vc"
  have hn : max ((a.map V.int).length : Int) ((b.map V.int).length : Int) = ((max a.length b.length : Nat) : Int) := by simp only [List.length_map]; lia
  rw [hn]
  refine ⟨small_nat (by lia), by rw [rangeSize_nat]; show _ ≤ 16777216; lia, ?_⟩
  have pa : 0 < a.length := List.length_pos_iff.mpr ha.1
  refine compT_idx (fun i acc st => ∃ (L : Str → Option V) (gi : G) (fs : List Int), acc = fs.map .int ∧ st = ⟨L, .none, gi⟩ ∧ L (Str.ofString "self") = some (.obj .bin) ∧ L (Str.ofString "c") = some (.int t) ∧ L (Str.ofString "a") = some (.tup (a.map .int)) ∧ L (Str.ofString "b") = some (.tup (b.map .int)) ∧
    fs.length = i ∧ Ext g gi (3 * i) ∧ Inv m gi ∧ (∀ x ∈ fs, Gate gi x) ∧ (∀ row j x, fs[j]? = some x → lit gi row x = if lit g row t = true then bitOf g row a j else bitOf g row b j)) ?_ ?_ _ _ ?_
  · rintro i it acc st rec hit hrec ⟨L, gi, fs, rfl, rfl, hs, hLc, hLa, hLb, hlen, hE, hIi, hfs, hls⟩
    obtain ⟨hi, rfl⟩ := rng_at hit
    have hx : Gate gi (place a i) := (ha.2 _ (place_mem ha.1 i)).ext hE
    have hy : Gate gi (place b i) := (hb.2 _ (place_mem hb.1 i)).ext hE
    have ll := hE.len
    clear hit
    replace hrec : Hide _ := hrec
    replace hP : Hide _ := hP
    dsimp only
    walk_at "mine vs"
    refine ⟨a, i, rfl, ha.1, ?_⟩
    walk_at "mine vs"
    refine ⟨b, i, rfl, hb.1, ?_⟩
    walk_at "mine vs"
    refine ⟨m, _, _, _, rfl, hIi, ht.ext hE, hx, hy, by lia, fun r1 g1 hE1 hI1 hr1 hl1 => ?_⟩
    have E1 := hE.trans hE1
    refine hrec _ _ ⟨_, g1, fs ++ [r1], by rw [List.map_append]; rfl, rfl, ?_, ?_, ?_, ?_, ?_, ?_, hI1, ?_, ?_⟩
    · simp (decide := true) only [v_set_loc, if_false, if_true]; exact hs
    · simp (decide := true) only [v_set_loc, if_false, if_true]; exact hLc
    · simp (decide := true) only [v_set_loc, if_false, if_true]; exact hLa
    · simp (decide := true) only [v_set_loc, if_false, if_true]; exact hLb
    · simp [hlen]
    · exact E1.le (by lia)
    · intro x hx
      rcases List.mem_append.mp hx with hx | hx
      · exact (hfs x hx).ext hE1
      · rw [List.mem_singleton.mp hx]; exact hr1
    · intro row j x hj
      by_cases hjl : j < fs.length
      · rw [List.getElem?_append_left hjl] at hj
        rw [lit_ext hIi hE1 (hfs x (List.mem_of_getElem? hj))]; exact hls row j x hj
      · rw [List.getElem?_append_right (by lia)] at hj
        have hj0 : j - fs.length = 0 := by
          apply Nat.eq_zero_of_not_pos; intro hp
          rw [List.getElem?_eq_none (by simp; lia)] at hj; cases hj
        rw [hj0] at hj
        cases hj
        obtain rfl : j = i := by lia
        rw [hl1 row, lit_ext hI E1 ht, lit_ext hI E1 (ha.2 _ (place_mem ha.1 j)), lit_ext hI E1 (hb.2 _ (place_mem hb.1 j))]; rfl
  · rintro acc st ⟨L, gi, fs, rfl, rfl, hs, hLc, hLa, hLb, hlen, hE, hIi, hfs, hls⟩
    rw [rng_len] at hlen hE
    have hE4 : Ext g gi 400 := hE.le (by lia)
    have hne : fs ≠ [] := by intro e; subst e; simp at hlen; lia
    refine ⟨fs, .inr rfl, hne, fun k k1 k2 k3 => ?_⟩
    refine hP _ _ hE4 hIi ⟨fun e => ?_, fun x hx => hfs x (List.mem_of_mem_take hx)⟩ (by rw [List.length_take]; lia) fun row => ?_
    · have := congrArg List.length e
      rw [List.length_take, List.length_nil] at this; lia
    · show num gi row (fs.take k) = _
      rw [num_take row k1 k2 k3, num_ext hI hE4 ha, num_ext hI hE4 hb, lit_ext hI hE4 ht]
      have hb' := hb
      have hb : ∀ j, j ≤ fs.length - 1 → bitOf gi row fs j = if lit g row t = true then bitOf g row a j else bitOf g row b j := fun j hj => by
        have hjl : j < fs.length := by lia
        show lit gi row (place fs j) = _
        rw [place_lt hjl]
        exact hls row j _ (List.getElem?_eq_getElem hjl)
      show T (bitOf gi row fs) 0 (fs.length - 1) = _
      rw [← num_wide ha.1 row (fs.length - 1) (by lia), ← num_wide hb'.1 row (fs.length - 1) (by lia)]
      by_cases hlt : lit g row t = true
      · rw [if_pos hlt]
        exact T_congr _ _ fun j _ h2 => by rw [hb j (by lia), if_pos hlt]
      · rw [if_neg hlt]
        exact T_congr _ _ fun j _ h2 => by rw [hb j (by lia), if_neg hlt]
  · exact ⟨_, g, [], rfl, rfl, rfl, rfl, rfl, rfl, rfl, (Ext.refl g).le (by lia), hI, by simp, by simp⟩

theorem f_below (c : Cx) : CallS c 8 (.ref 118) S_below := by
  refine' callS_intro ?kk ?ho ?hcd ?hbind ?hkind ?hfree ?hco ?hgen ?hk ?hB ?hS
  case ho => (show (hd.heap_39 _).lookup _ = _; with_unfolding_all rfl)
  case hcd => kernel_rfl
  case hkind => rfl
  case hfree => rfl
  case hco => rfl
  case hgen => rfl
  case hk => rfl
  case kk => exact 3
  case hbind => (intro xs hx; obtain ⟨a, b, d, ee⟩ := len3 hx; subst ee; rfl)
  case hB =>
    repeat' first
      | (with_reducible refine' s_nil)
      | (with_reducible refine' s_cons ?_ ?_)
      | (with_reducible refine' s_ret ?_)
      | (with_reducible refine' e_int)
      | ((with_reducible refine' e_name2 ?h1 ?h2); (case h1 | h2 => (intros; with_unfolding_all rfl)))
      | (with_reducible refine' e_neg ?_)
      | ((with_reducible refine' e_sub ?_ ?_ ?h1); (case h1 => (intros; with_unfolding_all rfl)))
      | (with_reducible refine' a_nil)
      | ((with_reducible refine' a_cons ?_ ?_ ?h1); (case h1 => (intros; with_unfolding_all rfl)))
      | ((with_reducible refine' e_meth (k := .bin) ?_ ?hC ?hm ?_ ?h1 ?h2 ?h3 ?h4 ?h5 ?h6); (case h1 => with_unfolding_all rfl); (case hC => (first | exact f_less _)); (case hm => decide); (case h2 => kernel_rfl); (case h3 => kernel_rfl); (case h4 | h5 | h6 => (intros; with_unfolding_all rfl)))
  rintro args g P ⟨m, a, b, rfl, hI, ha, hb, la, lb, hcap, hP⟩
  refine ⟨rfl, ?_⟩
  walk_at "mine vc"
  refine ⟨m, a, b, rfl, hI, ha, hb, la, lb, hcap, fun r g' hE hI' hr hl hv => ?_⟩
  walk_at "mine vc"
  refine ⟨_, by rw [ix_neg1 _ (by simpa using hr.1), List.getLast_map], ?_⟩
  exact hP _ g' hE hI' (hr.2 _ (List.getLast_mem hr.1)) fun row => by
    rw [num_sign hr.1, hv row, decide_eq_decide]; lia

theorem f_at_most (c : Cx) : CallS c 9 (.ref 125) S_at_most := by
  refine' callS_intro ?kk ?ho ?hcd ?hbind ?hkind ?hfree ?hco ?hgen ?hk ?hB ?hS
  case ho => (show (hd.heap_39 _).lookup _ = _; with_unfolding_all rfl)
  case hcd => kernel_rfl
  case hkind => rfl
  case hfree => rfl
  case hco => rfl
  case hgen => rfl
  case hk => rfl
  case kk => exact 3
  case hbind => (intro xs hx; obtain ⟨a, b, d, ee⟩ := len3 hx; subst ee; rfl)
  case hB =>
    repeat' first
      | (with_reducible refine' s_nil)
      | (with_reducible refine' s_cons ?_ ?_)
      | (with_reducible refine' s_ret ?_)
      | ((with_reducible refine' e_name2 ?h1 ?h2); (case h1 | h2 => (intros; with_unfolding_all rfl)))
      | (with_reducible refine' e_neg ?_)
      | (with_reducible refine' a_nil)
      | ((with_reducible refine' a_cons ?_ ?_ ?h1); (case h1 => (intros; with_unfolding_all rfl)))
      | ((with_reducible refine' e_meth (k := .bin) ?_ ?hC ?hm ?_ ?h1 ?h2 ?h3 ?h4 ?h5 ?h6); (case h1 => with_unfolding_all rfl); (case hC => (first | exact f_below _)); (case hm => decide); (case h2 => kernel_rfl); (case h3 => kernel_rfl); (case h4 | h5 | h6 => (intros; with_unfolding_all rfl)))
  rintro args g P ⟨m, a, b, rfl, hI, ha, hb, la, lb, hcap, hP⟩
  refine ⟨rfl, ?_⟩
  walk_at "mine vc"
  refine ⟨m, b, a, rfl, hI, hb, ha, lb, la, hcap, fun r g' hE hI' hr hv => ?_⟩
  walk_at "mine vc"
  refine hP _ g' hE hI' hr.neg fun row => ?_
  rw [lit_neg hI' hr, hv row, ← decide_not, decide_eq_decide]; lia

theorem num_eq_iff {g : G} {row : Nat} {a b : List Int} (ha : a ≠ []) (hb : b ≠ []) : num g row a = num g row b ↔ ∀ i, i < max a.length b.length → bitOf g row a i = bitOf g row b i := by
  have pa : 0 < a.length := List.length_pos_iff.mpr ha
  rw [← num_wide ha row (max a.length b.length - 1) (by lia), ← num_wide hb row (max a.length b.length - 1) (by lia)]
  exact ⟨fun h i hi => T_inj _ _ h i (by lia) (by lia), fun h => T_congr _ _ fun j _ h2 => h j (by lia)⟩
theorem f_equal (c : Cx) : CallS c 5 (.ref 130) S_equal := by
  refine' callS_intro ?kk ?ho ?hcd ?hbind ?hkind ?hfree ?hco ?hgen ?hk ?hB ?hS
  case ho => (show (hd.heap_39 _).lookup _ = _; with_unfolding_all rfl)
  case hcd => kernel_rfl
  case hkind => rfl
  case hfree => rfl
  case hco => rfl
  case hgen => rfl
  case hk => rfl
  case kk => exact 3
  case hbind => (intro xs hx; obtain ⟨a, b, d, ee⟩ := len3 hx; subst ee; rfl)
  case hB =>
    repeat' first
      | (with_reducible refine' s_nil)
      | (with_reducible refine' s_cons ?_ ?_)
      | (with_reducible refine' s_ret ?_)
      | ((with_reducible refine' e_name2 ?h1 ?h2); (case h1 | h2 => (intros; with_unfolding_all rfl)))
      | ((with_reducible refine' e_attr ?_ ?h1); (case h1 => (intros; with_unfolding_all rfl)))
      | (with_reducible refine' a_nil)
      | ((with_reducible refine' a_cons ?_ ?_ ?h1); (case h1 => (intros; with_unfolding_all rfl)))
      | (with_reducible refine' i_nil)
      | (with_reducible refine' i_val ?_)
      | ((with_reducible refine' e_comp ?ht ?_ ?_ ?_ ?h1 ?h2 ?h3 ?h4); (case ht => walk_at "mine tgt"); (case h2 => decide); (case h1 | h3 | h4 => (intros; with_unfolding_all rfl)))
      | ((with_reducible refine' e_call ?hfe ?hC ?hm ?_ ?h1 ?h2); (case hfe => walk_at "mine callee"); (case hC => (first | exact c_max | exact c_len | exact f_all_of _ | exact c_range | exact f_iff _ | exact f_place_of _)); (case hm => decide); (case h1 | h2 => (intros; with_unfolding_all rfl)))
      | ((with_reducible refine' e_meth (k := .circ) ?_ ?hC ?hm ?_ ?h1 ?h2 ?h3 ?h4 ?h5 ?h6); (case h1 => with_unfolding_all rfl); (case hC => (first | exact c_max | exact c_len | exact f_all_of _ | exact c_range | exact f_iff _ | exact f_place_of _)); (case hm => decide); (case h2 => kernel_rfl); (case h3 => kernel_rfl); (case h4 | h5 | h6 => (intros; with_unfolding_all rfl)))
      | ((with_reducible refine' s_asgn ?_ ?h1 ?h2); (case h1 => first | exact .inl rfl | exact .inr rfl); (case h2 => walk_at "mine plain"))
  rintro args g P ⟨m, a, b, rfl, hI, ha, hb, la, lb, hcap, hP⟩
  refine ⟨rfl, ?_⟩
  walk_at "mine vc"
  have hn : max ((a.map V.int).length : Int) ((b.map V.int).length : Int) = ((max a.length b.length : Nat) : Int) := by simp only [List.length_map]; lia
  rw [hn]
  refine ⟨small_nat (by lia), by rw [rangeSize_nat]; show _ ≤ 16777216; lia, ?_⟩
  refine compT_idx (fun i acc st => ∃ (L : Str → Option V) (gi : G) (fs : List Int), acc = fs.map .int ∧ st = ⟨L, .none, gi⟩ ∧ L (Str.ofString "self") = some (.obj .bin) ∧ L (Str.ofString "a") = some (.tup (a.map .int)) ∧ L (Str.ofString "b") = some (.tup (b.map .int)) ∧
    fs.length = i ∧ Ext g gi (3 * i) ∧ Inv m gi ∧ (∀ x ∈ fs, Gate gi x) ∧ (∀ row j x, fs[j]? = some x → lit gi row x = (bitOf g row a j == bitOf g row b j))) ?_ ?_ _ _ ?_
  · rintro i it acc st rec hit hrec ⟨L, gi, fs, rfl, rfl, hs, hLa, hLb, hlen, hE, hIi, hfs, hls⟩
    obtain ⟨hi, rfl⟩ := rng_at hit
    have hx : Gate gi (place a i) := (ha.2 _ (place_mem ha.1 i)).ext hE
    have hy : Gate gi (place b i) := (hb.2 _ (place_mem hb.1 i)).ext hE
    have ll := hE.len
    clear hit
    replace hrec : Hide _ := hrec
    replace hP : Hide _ := hP
    dsimp only
    walk_at "mine vs"
    refine ⟨a, i, rfl, ha.1, ?_⟩
    walk_at "mine vs"
    refine ⟨b, i, rfl, hb.1, ?_⟩
    walk_at "mine vs"
    refine ⟨m, _, _, rfl, hIi, hx, hy, by lia, fun r1 g1 hE1 hI1 hr1 hl1 => ?_⟩
    have E1 := hE.trans hE1
    refine hrec _ _ ⟨_, g1, fs ++ [r1], by rw [List.map_append]; rfl, rfl, ?_, ?_, ?_, ?_, ?_, hI1, ?_, ?_⟩
    · simp (decide := true) only [v_set_loc, if_false, if_true]; exact hs
    · simp (decide := true) only [v_set_loc, if_false, if_true]; exact hLa
    · simp (decide := true) only [v_set_loc, if_false, if_true]; exact hLb
    · simp [hlen]
    · exact E1.le (by lia)
    · intro x hx
      rcases List.mem_append.mp hx with hx | hx
      · exact (hfs x hx).ext hE1
      · rw [List.mem_singleton.mp hx]; exact hr1
    · intro row j x hj
      by_cases hjl : j < fs.length
      · rw [List.getElem?_append_left hjl] at hj
        rw [lit_ext hIi hE1 (hfs x (List.mem_of_getElem? hj))]; exact hls row j x hj
      · rw [List.getElem?_append_right (by lia)] at hj
        have hj0 : j - fs.length = 0 := by
          apply Nat.eq_zero_of_not_pos; intro hp
          rw [List.getElem?_eq_none (by simp; lia)] at hj; cases hj
        rw [hj0] at hj
        cases hj
        obtain rfl : j = i := by lia
        rw [hl1 row, lit_ext hI E1 (ha.2 _ (place_mem ha.1 j)), lit_ext hI E1 (hb.2 _ (place_mem hb.1 j))]; rfl
  · rintro acc st ⟨L, gi, fs, rfl, rfl, hs, hLa, hLb, hlen, hE, hIi, hfs, hls⟩
    rw [rng_len] at hlen hE
    have ll := hE.len
    refine ⟨m, fs, .inr rfl, hIi, hfs, by lia, by show gi.kinds.length + 1 ≤ _; lia, fun r g' hE' hI' hr hl => ?_⟩
    have E2 := hE.trans hE'
    refine hP _ _ (E2.le (by lia)) hI' hr fun row => ?_
    rw [hl row, num_ext hI E2 ha, num_ext hI E2 hb, Bool.eq_iff_iff, List.all_eq_true, decide_eq_true_eq, num_eq_iff ha.1 hb.1]
    constructor
    · intro q i hi
      have := q fs[i] (List.getElem_mem (by lia))
      rw [lit_ext hIi hE' (hfs _ (List.getElem_mem (by lia))), hls row i _ (List.getElem?_eq_getElem (by lia))] at this
      exact eq_of_beq this
    · intro q x hx
      obtain ⟨i, hi, rfl⟩ := List.getElem_of_mem hx
      rw [lit_ext hIi hE' (hfs _ (List.getElem_mem (by lia))), hls row i _ (List.getElem?_eq_getElem (by lia)), q i (by lia)]
      simp
  · exact ⟨_, g, [], rfl, rfl, rfl, rfl, rfl, rfl, (Ext.refl g).le (by lia), hI, by simp, by simp⟩

theorem f_draw (c : Cx) : CallS c 1 (.ref 256) S_draw := by
  refine' callS_intro ?kk ?ho ?hcd ?hbind ?hkind ?hfree ?hco ?hgen ?hk ?hB ?hS
  case ho => (show (hd.heap_39 _).lookup _ = _; with_unfolding_all rfl)
  case hcd => kernel_rfl
  case hkind => rfl
  case hfree => rfl
  case hco => rfl
  case hgen => rfl
  case hk => rfl
  case kk => exact 2
  case hbind => (intro xs hx; obtain ⟨a, b, ee⟩ := len2 hx; subst ee; rfl)
  case hB =>
    repeat' first
      | (with_reducible refine' s_nil)
      | (with_reducible refine' s_cons ?_ ?_)
      | (with_reducible refine' s_ret ?_)
      | (with_reducible refine' s_if ?_ ?_ ?_)
      | ((with_reducible refine' s_setobj ?_ ?_ ?_ ?h2); (case h2 => (intros; with_unfolding_all rfl)))
      | (with_reducible refine' e_int)
      | (with_reducible refine' e_str)
      | ((with_reducible refine' e_name2 ?h1 ?h2); (case h1 | h2 => (intros; with_unfolding_all rfl)))
      | ((with_reducible refine' ot_c_le ?_ ?_ ?h1); (case h1 => with_unfolding_all rfl))
      | (with_reducible refine' o_b_add2 ?_ ?_)
      | (with_reducible refine' o_b_sub ?_ ?_)
      | (with_reducible refine' o_b_mul2 ?_ ?_)
      | (with_reducible refine' o_b_mod ?_ ?_)
      | ((with_reducible refine' e_subn ?_ ?h1 ?h2 ?h3); (case h1 | h2 | h3 => (intros; with_unfolding_all rfl)))
      | ((with_reducible refine' e_sub ?_ ?_ ?h1); (case h1 => (intros; with_unfolding_all rfl)))
      | (with_reducible refine' a_nil)
      | ((with_reducible refine' a_cons ?_ ?_ ?h1); (case h1 => (intros; with_unfolding_all rfl)))
      | ((with_reducible refine' e_call ?hfe ?hC ?hm ?_ ?h1 ?h2); (case hfe => walk_at "mine callee"); (case hC => (first | exact c_len)); (case hm => decide); (case h1 | h2 => (intros; with_unfolding_all rfl)))
      | ((with_reducible refine' s_asgn ?_ ?h1 ?h2); (case h1 => first | exact .inl rfl | exact .inr rfl); (case h2 => walk_at "mine plain"))
  rintro args g P ⟨wide, rfl, h0, hw, ha, ha2, hP⟩
  refine ⟨rfl, ?_⟩
  walk_at "mine vc"
  have hw0 : (wide : Int) ≠ 0 := by lia
  have fin : ∀ z : Int, P (.int (z.fmod wide)) { g with at_ := g.at_ + 1 } := fun z => by
    have h1 := Int.emod_nonneg z hw0
    have h2 := Int.emod_lt_of_pos z (show (0 : Int) < wide by lia)
    have e : z.fmod wide = ((z % wide).toNat : Int) := by
      rw [Int.fmod_eq_emod_of_nonneg _ (by lia)]; lia
    rw [e]
    exact hP _ (by lia)
  by_cases h : g.at_ + 1 ≤ ((g.cells.map V.int).length : Nat)
  · rw [decide_eq_true h]
    walk_at "mine vc"
    obtain ⟨i, hi⟩ : ∃ i : Nat, g.at_ = i := ⟨g.at_.toNat, by lia⟩
    have hil : i < g.cells.length := by rw [List.length_map] at h; lia
    refine ⟨.int g.cells[i], ?_, ?_⟩
    · rw [show g.at_ + 1 - 1 = (i : Int) by lia, ix_nat _ _ (by simpa using hil)]; simp
    · exact ⟨hw0, fin _⟩
  · rw [decide_eq_false h]
    walk_at "mine vc"
    exact ⟨by lia, ⟨by lia, by lia⟩, by lia, hw0, fin _⟩

theorem f_gate (c : Cx) : CallS c 2 (.ref 263) S_gate := by
  refine' callS_intro ?kk ?ho ?hcd ?hbind ?hkind ?hfree ?hco ?hgen ?hk ?hB ?hS
  case ho => (show (hd.heap_39 _).lookup _ = _; with_unfolding_all rfl)
  case hcd => kernel_rfl
  case hkind => rfl
  case hfree => rfl
  case hco => rfl
  case hgen => rfl
  case hk => rfl
  case kk => exact 2
  case hbind => (intro xs hx; obtain ⟨a, b, ee⟩ := len2 hx; subst ee; rfl)
  case hB =>
    repeat' first
      | (with_reducible refine' s_nil)
      | (with_reducible refine' s_cons ?_ ?_)
      | (with_reducible refine' s_ret ?_)
      | (with_reducible refine' s_if ?_ ?_ ?_)
      | (with_reducible refine' e_int)
      | (with_reducible refine' e_str)
      | ((with_reducible refine' e_name2 ?h1 ?h2); (case h1 | h2 => (intros; with_unfolding_all rfl)))
      | (with_reducible refine' e_if ?_ ?_ ?_)
      | ((with_reducible refine' ot_c_lt ?_ ?_ ?h1); (case h1 => with_unfolding_all rfl))
      | ((with_reducible refine' ot_c_eq ?_ ?_ ?h1); (case h1 => with_unfolding_all rfl))
      | (with_reducible refine' e_neg ?_)
      | (with_reducible refine' o_b_add2 ?_ ?_)
      | (with_reducible refine' o_b_mul2 ?_ ?_)
      | (with_reducible refine' o_b_mod ?_ ?_)
      | (with_reducible refine' o_b_div ?_ ?_)
      | ((with_reducible refine' e_subn ?_ ?h1 ?h2 ?h3); (case h1 | h2 | h3 => (intros; with_unfolding_all rfl)))
      | ((with_reducible refine' e_sub ?_ ?_ ?h1); (case h1 => (intros; with_unfolding_all rfl)))
      | (with_reducible refine' a_nil)
      | ((with_reducible refine' a_cons ?_ ?_ ?h1); (case h1 => (intros; with_unfolding_all rfl)))
      | ((with_reducible refine' e_call ?hfe ?hC ?hm ?_ ?h1 ?h2); (case hfe => walk_at "mine callee"); (case hC => (first | exact c_len | exact f_draw _)); (case hm => decide); (case h1 | h2 => (intros; with_unfolding_all rfl)))
      | ((with_reducible refine' s_asgn ?_ ?h1 ?h2); (case h1 => first | exact .inl rfl | exact .inr rfl); (case h2 => walk_at "mine plain"))
  rintro args g P ⟨m, rfl, hW, ha, ha2, hP⟩
  refine ⟨rfl, ?_⟩
  walk_at "mine vc"
  have hlen : ((g.inputs.map V.int).length : Int) = m := by rw [List.length_map, hW.inputs]; simp
  have m1 := hW.m1
  have m3 := hW.m3
  simp only [hlen]
  refine ⟨hW.ready, ?_⟩
  walk_at "mine vc"
  refine ⟨by lia, 2 * m + 2, congrArg (fun z => [V.obj .feed, V.int z]) (by lia), by lia, by lia, ha, ha2, fun r hr => ?_⟩
  have f1 : (r : Int).fdiv 2 = ((r / 2 : Nat) : Int) := by rw [Int.fdiv_eq_ediv_of_nonneg _ (by decide)]; lia
  have f2 : (r : Int).fmod 2 = ((r % 2 : Nat) : Int) := by rw [Int.fmod_eq_emod_of_nonneg _ (by decide)]; lia
  have hix : ∀ j : Nat, j < m → ix (g.inputs.map V.int) (j : Int) = some (.int ((j : Int) + 2)) := fun j hj => by
    rw [ix_nat _ _ (by rw [List.length_map, hW.inputs]; simpa using hj)]
    simp [hW.inputs]
  clear hlen
  replace hP : Hide _ := hP
  have hPP : ∀ (x : Int), Base m x → P (.int x) { g with at_ := g.at_ + 1 } := hP
  replace hPP : Hide _ := hPP
  have sm : (m : Int).natAbs < 2 ^ 64 := by lia
  by_cases hlt : (r : Int) < 2 * (m : Int)
  · have hr2 : ((r : Int)).natAbs < 2 ^ 30 := by lia
    by_cases h0 : ((r % 2 : Nat) : Int) = 0
    · walk_at "mine vs"
      refine ⟨hW.ready, _, hix _ (by lia), ?_⟩
      walk_at "mine vs"
      have hQ : ∀ (x : Int), Base m x → P (.int x) { g with at_ := g.at_ + 1 } := hPP
      exact ⟨by lia, hQ ((((r / 2 : Nat) : Int) + 2) * 1) ⟨by lia, by lia⟩⟩
    · walk_at "mine vs"
      refine ⟨hW.ready, _, hix _ (by lia), ?_⟩
      walk_at "mine vs"
      have hQ : ∀ (x : Int), Base m x → P (.int x) { g with at_ := g.at_ + 1 } := hPP
      exact ⟨by lia, hQ ((((r / 2 : Nat) : Int) + 2) * -1) ⟨by lia, by lia⟩⟩
  · by_cases h0 : (r : Int) = 2 * (m : Int)
    · have hl2 : ¬ (2 * (m : Int) < 2 * (m : Int)) := by lia
      walk_at "mine vs"
      have hQ : ∀ (x : Int), Base m x → P (.int x) { g with at_ := g.at_ + 1 } := hPP
      exact hQ 1 ⟨by lia, by lia⟩
    · walk_at "mine vs"
      have hQ : ∀ (x : Int), Base m x → P (.int x) { g with at_ := g.at_ + 1 } := hPP
      exact hQ (-1) ⟨by lia, by lia⟩

theorem f_truths (c : Cx) : CallS c 1 (.ref 270) S_truths := by
  refine' callS_intro ?kk ?ho ?hcd ?hbind ?hkind ?hfree ?hco ?hgen ?hk ?hB ?hS
  case ho => (show (hd.heap_39 _).lookup _ = _; with_unfolding_all rfl)
  case hcd => kernel_rfl
  case hkind => rfl
  case hfree => rfl
  case hco => rfl
  case hgen => rfl
  case hk => rfl
  case kk => exact 2
  case hbind => (intro xs hx; obtain ⟨a, b, ee⟩ := len2 hx; subst ee; rfl)
  case hB =>
    repeat' first
      | (with_reducible refine' s_nil)
      | (with_reducible refine' s_cons ?_ ?_)
      | (with_reducible refine' s_ret ?_)
      | ((with_reducible refine' s_for ?ht ?_ ?_ ?h2); (case ht => walk_at "mine tgt"); (case h2 => (intros; with_unfolding_all rfl)))
      | (with_reducible refine' e_int)
      | (with_reducible refine' e_str)
      | ((with_reducible refine' e_name2 ?h1 ?h2); (case h1 | h2 => (intros; with_unfolding_all rfl)))
      | (with_reducible refine' e_or ?_ ?_)
      | ((with_reducible refine' oe_c_gt ?_ ?_ ?h1); (case h1 => with_unfolding_all rfl))
      | ((with_reducible refine' oe_c_eq ?_ ?_ ?h1); (case h1 => with_unfolding_all rfl))
      | (with_reducible refine' o_b_shl ?_ ?_)
      | (with_reducible refine' o_b_shr ?_ ?_)
      | (with_reducible refine' o_b_and ?_ ?_)
      | ((with_reducible refine' e_subn ?_ ?h1 ?h2 ?h3); (case h1 | h2 | h3 => (intros; with_unfolding_all rfl)))
      | (with_reducible refine' a_nil)
      | ((with_reducible refine' a_cons ?_ ?_ ?h1); (case h1 => (intros; with_unfolding_all rfl)))
      | (with_reducible refine' i_val ?_)
      | ((with_reducible refine' e_call ?hfe ?hC ?hm ?_ ?h1 ?h2); (case hfe => walk_at "mine callee"); (case hC => (first | exact c_range | exact c_len | exact c_abs)); (case hm => decide); (case h1 | h2 => (intros; with_unfolding_all rfl)))
      | ((with_reducible refine' e_append ?_ ?h1 ?h2 ?h3 ?h4); (case h1 | h2 | h3 | h4 => (intros; with_unfolding_all rfl)))
      | ((with_reducible refine' e_index ?_ ?_ ?h1 ?h2); (case h1 | h2 => (intros; with_unfolding_all rfl)))
      | ((with_reducible refine' s_ownlst ?_ ?h1 ?h2); (case h1 => first | exact .inl rfl | exact .inr rfl); (case h2 => (intros; with_unfolding_all rfl)))
      | ((with_reducible refine' s_asgn ?_ ?h1 ?h2); (case h1 => first | exact .inl rfl | exact .inr rfl); (case h2 => walk_at "mine plain"))
      | ((with_reducible refine' s_expr ?_ ?h2); (case h2 => (intros; with_unfolding_all rfl)))
  rintro args g P ⟨m, x, rfl, hW, hx, hP⟩
  refine ⟨rfl, ?_⟩
  walk_at "mine vc"
  intro ad
  walk_at "mine vc"
  have hlen : (g.inputs.map V.int).length = m := by rw [List.length_map, hW.inputs]; simp
  have m3 := pow3 hW.m3
  have hm3 := hW.m3
  have ep : (1 * 2 ^ m : Int) = ((2 ^ m : Nat) : Int) := by rw [Int.one_mul, Int.natCast_pow]; rfl
  simp only [hlen, Int.toNat_natCast, ep]
  refine ⟨hW.ready, ⟨by lia, by lia⟩, small_nat (by lia), by rw [rangeSize_nat]; show _ ≤ 16777216; lia, ?_⟩
  walk_at "mine gof"
  refine forT_idx (fun i st => ∃ (L : Str → Option V) (bs : List V), st = ⟨L, .lst (Str.ofString "found") ad bs true, g⟩ ∧ bs = ((List.range i).map fun row => .bool (lit g row x)) ∧ L (Str.ofString "g") = some (.int x) ∧ L (Str.ofString "world") = some (.obj .world) ∧ L (Str.ofString "found") = none) ?_ ?_ _ ?_
  · rintro i it st rec hit hrec ⟨L, bs, rfl, hbs, hLg, hLw, hLf⟩
    obtain ⟨hi, rfl⟩ := rng_at hit
    clear hit
    have key : ∀ (b : Bool) (L' : Str → Option V), b = lit g i x → L' (Str.ofString "g") = some (.int x) → L' (Str.ofString "world") = some (.obj .world) → L' (Str.ofString "found") = none → rec ⟨L', .lst (Str.ofString "found") ad (bs ++ [.bool b]) true, g⟩ := by
      intro b L' hb h1 h2 h3
      refine hrec _ ⟨L', _, rfl, ?_, h1, h2, h3⟩
      rw [List.range_succ, List.map_append, ← hbs, hb]; rfl
    have hl := base_lit hW.inv hx i
    clear hrec
    replace key : Hide _ := key
    replace hP : Hide _ := hP
    have sz : bs.length + 1 ≤ sizeLine := by rw [hbs]; simp; show _ ≤ 16777216; lia
    dsimp only
    have fin : ∀ (b : Bool) (L' : Str → Option V), b = lit g i x → L' (Str.ofString "g") = some (.int x) → L' (Str.ofString "world") = some (.obj .world) → L' (Str.ofString "found") = none → rec ⟨L', .lst (Str.ofString "found") ad (bs ++ [.bool b]) true, g⟩ := key
    replace fin : Hide _ := fin
    clear key
    by_cases h1 : x.natAbs = 1
    · have h1' : (x.natAbs : Int) = 1 := by lia
      rw [if_pos h1] at hl
      clear hbs
      walk_at "mine vs"
      refine (show ∀ (b : Bool) (L' : Str → Option V), _ from fin) _ _ ?_ ?_ ?_ ?_
      · rw [hl]; generalize decide (0 < x) = d; cases d <;> rfl
      · simp (decide := true) only [v_set_loc, if_false]; exact hLg
      · simp (decide := true) only [v_set_loc, if_false]; exact hLw
      · simp (decide := true) only [v_set_loc, if_false]; exact hLf
    · have h1' : ¬ (x.natAbs : Int) = 1 := by lia
      rw [if_neg h1] at hl
      have hxa : x.natAbs ≠ 0 := fun e => hx.1 (Int.natAbs_eq_zero.mp e)
      have hxm := hx.2
      have hidx : List.idxOf (x.natAbs : Int) g.inputs = x.natAbs - 2 := by
        have key2 : ∀ m, m ≤ 3 → ∀ k, k < m → ((List.range m).map (fun i : Nat => (i : Int) + 2)).idxOf ((k : Int) + 2) = k := by decide
        rw [hW.inputs]
        have := key2 m hm3 (x.natAbs - 2) (by lia)
        rwa [show (((x.natAbs - 2 : Nat) : Int) + 2) = (x.natAbs : Int) by lia] at this
      have hmem : (x.natAbs : Int) ∈ g.inputs := by
        rw [hW.inputs, List.mem_map]
        exact ⟨x.natAbs - 2, List.mem_range.mpr (by lia), by lia⟩
      clear hbs
      replace hidx : Hide _ := hidx
      walk_at "mine vs"
      refine ⟨hW.ready, g.inputs, rfl, hmem, by lia, ?_⟩
      walk_at "mine vs"
      refine (show ∀ (b : Bool) (L' : Str → Option V), _ from fin) _ _ ?_ ?_ ?_ ?_
      · rw [hl, show List.idxOf (x.natAbs : Int) g.inputs = x.natAbs - 2 from hidx, bitAnd_1]
        have e : decide (((i : Int).fdiv (2 ^ ((x.natAbs - 2 : Nat) : Int).toNat)) % 2 = 1) = i.testBit (x.natAbs - 2) := by
          rw [Bool.eq_iff_iff, decide_eq_true_eq]; exact shr_test i _
        rw [e]
        generalize decide (0 < x) = d
        cases d <;> cases i.testBit (x.natAbs - 2) <;> rfl
      · simp (decide := true) only [v_set_loc, if_false]; exact hLg
      · simp (decide := true) only [v_set_loc, if_false]; exact hLw
      · simp (decide := true) only [v_set_loc, if_false]; exact hLf
  · rintro st ⟨L, bs, rfl, hbs, hLg, hLw, hLf⟩
    rw [rng_len] at hbs
    walk_at "mine vs"
    exact hP
  · exact ⟨_, [], rfl, rfl, rfl, rfl, rfl⟩

theorem f_counted (c : Cx) : CallS c 10 (.ref 275) S_counted := by
  refine' callS_intro ?kk ?ho ?hcd ?hbind ?hkind ?hfree ?hco ?hgen ?hk ?hB ?hS
  case ho => (show (hd.heap_39 _).lookup _ = _; with_unfolding_all rfl)
  case hcd => kernel_rfl
  case hkind => rfl
  case hfree => rfl
  case hco => rfl
  case hgen => rfl
  case hk => rfl
  case kk => exact 2
  case hbind => (intro xs hx; obtain ⟨a, b, ee⟩ := len2 hx; subst ee; rfl)
  case hB =>
    repeat' first
      | (with_reducible refine' s_nil)
      | (with_reducible refine' s_cons ?_ ?_)
      | (with_reducible refine' s_ret ?_)
      | (with_reducible refine' e_int)
      | (with_reducible refine' e_str)
      | ((with_reducible refine' e_name2 ?h1 ?h2); (case h1 | h2 => (intros; with_unfolding_all rfl)))
      | ((with_reducible refine' t_of ?_ ?h1); (case h1 => (intros; with_unfolding_all rfl)))
      | (with_reducible refine' o_b_shl ?_ ?_)
      | ((with_reducible refine' e_subn ?_ ?h1 ?h2 ?h3); (case h1 | h2 | h3 => (intros; with_unfolding_all rfl)))
      | ((with_reducible refine' e_sub ?_ ?_ ?h1); (case h1 => (intros; with_unfolding_all rfl)))
      | (with_reducible refine' a_nil)
      | ((with_reducible refine' a_cons ?_ ?_ ?h1); (case h1 => (intros; with_unfolding_all rfl)))
      | (with_reducible refine' e_tup ?_)
      | (with_reducible refine' i_nil)
      | (with_reducible refine' i_one ?_)
      | (with_reducible refine' i_val ?_)
      | ((with_reducible refine' e_comp ?ht ?_ ?_ ?_ ?h1 ?h2 ?h3 ?h4); (case ht => walk_at "mine tgt"); (case h2 => decide); (case h1 | h3 | h4 => (intros; with_unfolding_all rfl)))
      | ((with_reducible refine' e_call ?hfe ?hC ?hm ?_ ?h1 ?h2); (case hfe => walk_at "mine callee"); (case hC => (first | exact c_range | exact f_draw _ | exact f_gate _ | exact f_truths _ | exact c_len | exact f_of_gates _)); (case hm => decide); (case h1 | h2 => (intros; with_unfolding_all rfl)))
      | ((with_reducible refine' e_meth (k := .bin) ?_ ?hC ?hm ?_ ?h1 ?h2 ?h3 ?h4 ?h5 ?h6); (case h1 => with_unfolding_all rfl); (case hC => (first | exact c_range | exact f_draw _ | exact f_gate _ | exact f_truths _ | exact c_len | exact f_of_gates _)); (case hm => decide); (case h2 => kernel_rfl); (case h3 => kernel_rfl); (case h4 | h5 | h6 => (intros; with_unfolding_all rfl)))
      | ((with_reducible refine' s_comp ?ht ?_ ?_ ?_ ?h1 ?h2 ?h3 ?h4 ?h5 ?h6); (case h5 => with_unfolding_all rfl); (case h6 => walk_at "mine swap"); (case ht => walk_at "mine tgt"); (case h2 => decide); (case h1 | h3 | h4 => (intros; with_unfolding_all rfl)))
      | ((with_reducible refine' s_asgn ?_ ?h1 ?h2); (case h1 => first | exact .inl rfl | exact .inr rfl); (case h2 => walk_at "mine plain"))
  rintro args g P ⟨m, rfl, hW, hcap, ha, ha2, hP⟩
  refine ⟨rfl, ?_⟩
  walk_at "mine vc"
  have hlen : (g.inputs.map V.int).length = m := by rw [List.length_map, hW.inputs]; simp
  have m3 := pow3 hW.m3
  have hm3 := hW.m3
  have ep : (1 * 2 ^ m : Int) = ((2 ^ m : Nat) : Int) := by rw [Int.one_mul, Int.natCast_pow]; rfl
  replace hP : Hide _ := hP
  refine ⟨5, rfl, by decide, by decide, ha, by lia, fun r hr => ?_⟩
  show _
  change S_range [.int (r : Int)] (g.at' (g.at_ + 1)) _
  generalize hg1 : g.at' (g.at_ + 1) = g1
  have hW1 : Wd m g1 := hg1 ▸ hW.at' _
  walk_at "mine vc"
  refine ⟨small_nat (by lia), by rw [rangeSize_nat]; show _ ≤ 16777216; lia, ?_⟩
  refine compT_idx (fun i acc st => ∃ (L : Str → Option V) (gs : List Int), acc = gs.map .int ∧ st = ⟨L, .none, g.at' (g.at_ + 1 + i)⟩ ∧ L (Str.ofString "feed") = some (.obj .feed) ∧ L (Str.ofString "world") = some (.obj .world) ∧ gs.length = i ∧ ∀ x ∈ gs, Base m x) ?_ ?_ _ _ ?_
  · rintro i it acc st rec hit hrec ⟨L, gs, rfl, rfl, hLf, hLw, hgl, hgs⟩
    obtain ⟨hi, rfl⟩ := rng_at hit
    clear hit
    replace hrec : Hide _ := hrec
    dsimp only
    walk_at "mine vs"
    refine ⟨m, rfl, hW.at' _, by show 0 ≤ g.at_ + 1 + (i : Int); lia, by show g.at_ + 1 + (i : Int) + 1 ≤ _; lia, fun x hx => ?_⟩
    refine hrec _ _ ⟨_, gs ++ [x], by rw [List.map_append]; rfl, congrArg (fun z => St.mk _ _ (g.at' z)) (show g.at_ + 1 + (i : Int) + 1 = g.at_ + 1 + ((i + 1 : Nat) : Int) by lia), ?_, ?_, by simp [hgl], ?_⟩
    · simp (decide := true) only [v_set_loc, if_false]; exact hLf
    · simp (decide := true) only [v_set_loc, if_false]; exact hLw
    · intro y hy
      rcases List.mem_append.mp hy with hy | hy
      · exact hgs y hy
      · rw [List.mem_singleton.mp hy]; exact hx
  · rintro acc st ⟨L, gs, rfl, rfl, hLf, hLw, hgl, hgs⟩
    rw [rng_len] at hgl
    rw [rng_len]
    have hr5 : r ≤ 4 := by lia
    dsimp only
    clear hW1 hg1
    generalize hg2 : g.at' (g.at_ + 1 + (r : Int)) = g2
    have hW2 : Wd m g2 := hg2 ▸ hW.at' _
    have hR2 : Run g g2 0 5 := hg2 ▸ Run.at' g (by lia) (by lia)
    have hin2 : g2.inputs = g.inputs := hR2.inputs
    have hk2 : g2.kinds = g.kinds := by rw [← hg2]; rfl
    walk_at "mine vc"
    rw [List.map_map]
    refine compT_map gs _ (fun x => .lst (truthsV m g2 x)) (fun st => st.g = g2 ∧ st.loc (Str.ofString "world") = some (.obj .world)) ?_ ?_ _ ⟨rfl, rfl⟩
    · rintro x hx acc st rec ⟨hst, hw⟩ hrec
      replace hrec : Hide _ := hrec
      show (fun st1 => _) (St.set st (Str.ofString "g") (V.int x))
      walk_at "mine vs"
      refine ⟨m, x, rfl, hW2, hgs x hx, hrec _ ⟨rfl, ?_⟩⟩
      simp (decide := true) only [v_set_loc, if_false]; exact hw
    · rintro st ⟨hst, hw⟩
      walk_at "mine vc"
      have hlen2 : (st.g.inputs.map V.int).length = m := by rw [hst, hin2]; exact hlen
      simp only [hlen2, Int.toNat_natCast, ep]
      refine ⟨by rw [hst]; exact hW2.ready, ⟨by lia, by lia⟩, small_nat (by lia), by rw [rangeSize_nat]; show _ ≤ 16777216; lia, ?_⟩
      rw [rng_nat]
      refine compT_map (List.range (2 ^ m)) _ (fun row => .int ((gs.map fun x => b2i (lit g2 row x)).sum)) (fun st => ∃ L : Str → Option V, st = ⟨L, .none, g2⟩ ∧ L (Str.ofString "rows") = some (.lst (gs.map fun x => .lst (truthsV m g2 x)))) ?_ ?_ _ ?_
      · rintro row hrow acc st rec ⟨L, rfl, hL⟩ hrec
        have hrw : row < 2 ^ m := List.mem_range.mp hrow
        replace hrec : Hide _ := hrec
        have hll : (gs.map fun x => V.lst (truthsV m g2 x)).length = r := by rw [List.length_map]; exact hgl
        dsimp only
        walk_at "mine vs"
        rw [rng_nat]
        refine ⟨small_nat (by lia), by rw [rangeSize_nat]; show _ ≤ 16777216; lia, ?_⟩
        refine compT_fm (List.range r) _ (fun k => if lit g2 row (gs.getD k 0) = true then some (.int (k : Int)) else none) (fun st => st.g = g2 ∧ st.loc (Str.ofString "rows") = some (.lst (gs.map fun x => .lst (truthsV m g2 x))) ∧ st.loc (Str.ofString "row") = some (.int (row : Int)) ∧ st.own = .none) ?_ ?_ _ ⟨rfl, ?_, ?_, rfl⟩
        · rintro k hk acc' st' rec' ⟨hst', h1, h2, h3⟩ hrec'
          have hkr : k < gs.length := by rw [hgl]; exact List.mem_range.mp hk
          have hK : (∀ z, z = st'.set (Str.ofString "k") (.int (k : Int)) → rec' (acc' ++ (if lit g2 row (gs.getD k 0) = true then some (V.int (k : Int)) else none).toList) z) := fun z hz => hrec' _ (by
            subst hz
            refine ⟨hst', ?_, ?_, ?_⟩
            · simp (decide := true) only [v_set_loc, if_false]; exact h1
            · simp (decide := true) only [v_set_loc, if_false]; exact h2
            · simp only [v_set_own, h3]; rfl)
          have hgd : gs.getD k 0 = gs[k] := by simp [List.getD_eq_getElem?_getD, hkr]
          have hix1 : ix (gs.map fun x => V.lst (truthsV m g2 x)) (k : Int) = some (.lst (truthsV m g2 gs[k])) := by rw [ix_nat _ _ (by simpa using hkr)]; simp
          have hix2 : ix (truthsV m g2 gs[k]) (row : Int) = some (.bool (lit g2 row gs[k])) := by rw [ix_nat _ _ (by simpa [truthsV] using hrw)]; simp [truthsV]
          rw [hgd] at hK
          clear hrec' hrec hP hW hW2 hR2
          replace hK : Hide _ := hK
          show (fun st1 => _) (St.set st' (Str.ofString "k") (V.int (k : Int)))
          have hs1 : (st'.set (Str.ofString "k") (.int (k : Int))).loc (Str.ofString "rows") = some (.lst (gs.map fun x => .lst (truthsV m g2 x))) := by simp (decide := true) only [v_set_loc, if_false]; exact h1
          have hs2 : (st'.set (Str.ofString "k") (.int (k : Int))).loc (Str.ofString "row") = some (.int (row : Int)) := by simp (decide := true) only [v_set_loc, if_false]; exact h2
          have hs3 : (st'.set (Str.ofString "k") (.int (k : Int))).loc (Str.ofString "k") = some (.int (k : Int)) := by simp (decide := true) only [v_set_loc, if_true]
          have hK2 : (∀ z, z = st'.set (Str.ofString "k") (.int (k : Int)) → rec' (acc' ++ (if lit g2 row gs[k] = true then some (V.int (k : Int)) else none).toList) z) := hK
          clear hK
          generalize st'.set (Str.ofString "k") (.int (k : Int)) = st2 at hs1 hs2 hs3 hK2 ⊢
          replace hK2 : Hide _ := hK2
          dsimp only
          simp only [hs1, v_subK, v_name, hs3, v_nameK, v_sub_lst, hix1]
          refine ⟨_, rfl, ?_⟩
          simp only [hs2, v_nameK, v_sub_lst, hix2]
          refine ⟨_, rfl, ?_⟩
          simp only [v_onBool]
          have hK3 := (show ∀ z, z = st2 → _ from hK2) st2 rfl
          cases hb : lit g2 row gs[k] with
          | true =>
            rw [hb] at hK3
            simp only [hs3, v_nameK]
            exact hK3
          | false => rw [hb] at hK3; rw [if_neg (by simp)] at hK3; simpa using hK3
        · rintro st' ⟨hst', h1, h2, h3⟩
          have e : ((((List.range r).filterMap fun k => if lit g2 row (gs.getD k 0) = true then some (V.int (k : Int)) else none).length : Nat) : Int) = (gs.map fun x => b2i (lit g2 row x)).sum := by
            rw [count_len, ← hgl]
            exact congrArg List.sum (map_range_getD gs 0 fun x => b2i (lit g2 row x))
          rw [e]
          refine hrec _ ⟨_, congrArg (St.mk _ _) hst', ?_⟩
          simp (decide := true) only [v_set_loc, if_false]; exact hL
        · simp (decide := true) only [v_inner_loc, v_set_loc, if_true, if_false]; exact hL
        · simp (decide := true) only [v_inner_loc, v_set_loc, if_true, if_false]
      · rintro st ⟨L, rfl, hL⟩
        walk_at "mine vc"
        refine ⟨m, gs, rfl, hW2.inv, fun x hx => (hgs x hx).gate hW2.inv, by lia, by show g2.kinds.length + 1600 ≤ _; rw [hk2]; exact hcap, fun ro g' hE hI' hro hl hv => ⟨by show 2 ≤ 16777216; lia, ?_⟩⟩
        refine hP _ g' ((hR2.trans hE.run).le (by lia) (by lia)) hI' ⟨ro, ?_, hro, hl⟩
        unfold numV dues
        congr 3
        rw [List.map_map]
        congr 1
        apply List.map_congr_left
        intro row _
        show V.int _ = V.int (num g' row ro)
        rw [hv row]
        congr 2
        exact List.map_congr_left fun x hx => by rw [lit_ext hW2.inv hE ((hgs x hx).gate hW2.inv)]
      · exact ⟨_, by rw [hst]; rfl, rfl⟩
  · exact ⟨_, [], rfl, congrArg (St.mk _ _) (by rw [← hg1]; show _ = g.at' (g.at_ + 1 + 0); rw [Int.add_zero]), rfl, rfl, rfl, by simp⟩

theorem f_number (c : Cx) : CallS c 11 (.ref 280) S_number := by
  refine' callS_intro ?kk ?ho ?hcd ?hbind ?hkind ?hfree ?hco ?hgen ?hk ?hB ?hS
  case ho => (show (hd.heap_39 _).lookup _ = _; with_unfolding_all rfl)
  case hcd => kernel_rfl
  case hkind => rfl
  case hfree => rfl
  case hco => rfl
  case hgen => rfl
  case hk => rfl
  case kk => exact 2
  case hbind => (intro xs hx; obtain ⟨a, b, ee⟩ := len2 hx; subst ee; rfl)
  case hB =>
    repeat' first
      | (with_reducible refine' s_nil)
      | (with_reducible refine' s_cons ?_ ?_)
      | (with_reducible refine' s_ret ?_)
      | (with_reducible refine' s_if ?_ ?_ ?_)
      | ((with_reducible refine' s_for ?ht ?_ ?_ ?h2); (case ht => walk_at "mine tgt"); (case h2 => (intros; with_unfolding_all rfl)))
      | (with_reducible refine' e_int)
      | (with_reducible refine' e_str)
      | ((with_reducible refine' e_name2 ?h1 ?h2); (case h1 | h2 => (intros; with_unfolding_all rfl)))
      | (with_reducible refine' e_if ?_ ?_ ?_)
      | ((with_reducible refine' ot_c_eq ?_ ?_ ?h1); (case h1 => with_unfolding_all rfl))
      | ((with_reducible refine' t_of ?_ ?h1); (case h1 => (intros; with_unfolding_all rfl)))
      | (with_reducible refine' e_neg ?_)
      | (with_reducible refine' o_b_add2 ?_ ?_)
      | (with_reducible refine' o_b_sub ?_ ?_)
      | (with_reducible refine' o_b_mul2 ?_ ?_)
      | (with_reducible refine' o_b_shl ?_ ?_)
      | ((with_reducible refine' e_subn ?_ ?h1 ?h2 ?h3); (case h1 | h2 | h3 => (intros; with_unfolding_all rfl)))
      | (with_reducible refine' a_nil)
      | ((with_reducible refine' a_cons ?_ ?_ ?h1); (case h1 => (intros; with_unfolding_all rfl)))
      | (with_reducible refine' e_tup ?_)
      | (with_reducible refine' e_lst ?_)
      | (with_reducible refine' i_nil)
      | ((with_reducible refine' i_zip ?hfe ?_ ?h1 ?h2); (case hfe => walk_at "mine callee"); (case h1 | h2 => (intros; with_unfolding_all rfl)))
      | ((with_reducible refine' i_enum ?hfe ?_ ?h1 ?h2); (case hfe => walk_at "mine callee"); (case h1 | h2 => (intros; with_unfolding_all rfl)))
      | (with_reducible refine' i_val ?_)
      | ((with_reducible refine' e_call ?hfe ?hC ?hm ?_ ?h1 ?h2); (case hfe => walk_at "mine callee"); (case hC => (first | exact f_draw _ | exact c_len | exact f_constant _ | exact f_counted _ | exact c_range | exact f_gate _ | exact f_truths _ | exact c_tuple)); (case hm => decide); (case h1 | h2 => (intros; with_unfolding_all rfl)))
      | ((with_reducible refine' e_meth (k := .bin) ?_ ?hC ?hm ?_ ?h1 ?h2 ?h3 ?h4 ?h5 ?h6); (case h1 => with_unfolding_all rfl); (case hC => (first | exact f_draw _ | exact c_len | exact f_constant _ | exact f_counted _ | exact c_range | exact f_gate _ | exact f_truths _ | exact c_tuple)); (case hm => decide); (case h2 => kernel_rfl); (case h3 => kernel_rfl); (case h4 | h5 | h6 => (intros; with_unfolding_all rfl)))
      | ((with_reducible refine' s_comp ?ht ?_ ?_ ?_ ?h1 ?h2 ?h3 ?h4 ?h5 ?h6); (case h5 => with_unfolding_all rfl); (case h6 => walk_at "mine swap"); (case ht => walk_at "mine tgt"); (case h2 => decide); (case h1 | h3 | h4 => (intros; with_unfolding_all rfl)))
      | ((with_reducible refine' s_swap ?_ ?h1 ?h2 ?h3 ?h4); (case h4 => walk_at "mine swapped"); (case h1 | h2 | h3 => (intros; with_unfolding_all rfl)))
      | ((with_reducible refine' s_asgn ?_ ?h1 ?h2); (case h1 => first | exact .inl rfl | exact .inr rfl); (case h2 => walk_at "mine plain"))
  rintro args g P ⟨m, rfl, hW, hcap, ha, ha2, hP⟩
  refine ⟨rfl, ?_⟩
  walk_at "mine vc"
  have hlen : (g.inputs.map V.int).length = m := by rw [List.length_map, hW.inputs]; simp
  have m3 := pow3 hW.m3
  have hm3 := hW.m3
  have hm1 := hW.m1
  have ep : (1 * 2 ^ m : Int) = ((2 ^ m : Nat) : Int) := by rw [Int.one_mul, Int.natCast_pow]; rfl
  replace hP : Hide _ := hP
  refine ⟨3, rfl, by decide, by decide, ha, by lia, fun way hway => ?_⟩
  simp only [hlen, Int.toNat_natCast, ep]
  refine ⟨hW.ready, ⟨by lia, by lia⟩, by show 2 ≤ 16777216; lia, ?_⟩
  have hW1 : Wd m (g.at' (g.at_ + 1)) := hW.at' _
  by_cases h0 : (way : Int) = 0
  · clear hW1
    walk_at "mine vs"
    refine ⟨21, rfl, by decide, by decide, by show 0 ≤ g.at_ + 1; lia, by show g.at_ + 1 + 1 ≤ _; lia, fun d hd => ?_⟩
    walk_at "mine vs"
    refine ⟨(d : Int) - 10, 4, rfl, by lia, by lia, by decide, fun z hz hst hl hv => ?_⟩
    refine ⟨by show 1 ≤ 16777216; lia, ⟨Int.natCast_nonneg _, by lia⟩, by show 2 ≤ 16777216; lia, ?_⟩
    have hWd : Wd m (g.at' (g.at_ + 1 + 1)) := hW.at' _
    have hr := Right.of (m := m) (w := 5) (f := fun _ => (d : Int) - 10) (settled_num hWd.inv hz hst) hl (fun row _ => (hv m _ row hWd.inv).symm)
    rw [show (List.range (2 ^ m)).map (fun row => V.int ((fun _ => (d : Int) - 10) row)) = List.replicate (2 ^ m) (V.int ((d : Int) - 10)) from by rw [List.map_const', List.length_range]] at hr
    exact hP _ (g.at' (g.at_ + 1 + 1)) ((Run.at' g (d := 2) (by lia) (by lia)).le (by lia) (by lia)) hWd.inv hr
  · by_cases h1 : (way : Int) = 1
    · replace hW1 : Hide _ := hW1
      walk_at "mine vs"
      refine ⟨m, rfl, hW1, hcap, by show 0 ≤ g.at_ + 1; lia, by show g.at_ + 1 + 5 ≤ _; lia, fun v g' hR hI' hr => ?_⟩
      obtain ⟨ns, e1, e2, e3⟩ := hr
      exact hP v g' (((Run.draw g).trans hR).le (by lia) (by lia)) hI' ⟨ns, e1, e2, by lia⟩
    · clear hW1
      walk_at "mine vs"
      refine ⟨3, rfl, by decide, by decide, by show 0 ≤ g.at_ + 1; lia, by show g.at_ + 1 + 1 ≤ _; lia, fun d hd => ?_⟩
      obtain ⟨n, hn⟩ : ∃ n, n = 1 + d := ⟨_, rfl⟩
      have e1 : (1 + (d : Int)) = (n : Int) := by lia
      have hn1 : 1 ≤ n := by lia
      have hn3 : n ≤ 3 := by lia
      clear hn
      walk_at "mine vs"
      refine ⟨small_nat (by lia), by rw [rangeSize_nat]; show _ ≤ 16777216; lia, ?_⟩
      refine compT_idx (fun i acc st => ∃ (L : Str → Option V) (gs : List Int), acc = gs.map .int ∧ st = ⟨L, .none, g.at' (g.at_ + 2 + i)⟩ ∧ L (Str.ofString "feed") = some (.obj .feed) ∧ L (Str.ofString "world") = some (.obj .world) ∧ gs.length = i ∧ ∀ x ∈ gs, Base m x) ?_ ?_ _ _ ?_
      · rintro i it acc st rec hit hrec ⟨L, gs, rfl, rfl, hLf, hLw, hgl, hgs⟩
        obtain ⟨hi, rfl⟩ := rng_at hit
        clear hit
        replace hrec : Hide _ := hrec
        dsimp only
        walk_at "mine vs"
        refine ⟨m, rfl, hW.at' _, by show 0 ≤ g.at_ + 2 + (i : Int); lia, by show g.at_ + 2 + (i : Int) + 1 ≤ _; lia, fun x hx => ?_⟩
        refine hrec _ _ ⟨_, gs ++ [x], by rw [List.map_append]; rfl, congrArg (fun z => St.mk _ _ (g.at' z)) (show g.at_ + 2 + (i : Int) + 1 = g.at_ + 2 + ((i + 1 : Nat) : Int) by lia), ?_, ?_, by simp [hgl], ?_⟩
        · simp (decide := true) only [v_set_loc, if_false]; exact hLf
        · simp (decide := true) only [v_set_loc, if_false]; exact hLw
        · intro y hy
          rcases List.mem_append.mp hy with hy | hy
          · exact hgs y hy
          · rw [List.mem_singleton.mp hy]; exact hx
      · rintro acc st ⟨L, gs, rfl, rfl, hLf, hLw, hgl, hgs⟩
        rw [rng_len] at hgl
        rw [rng_len]
        dsimp only
        generalize hg2 : g.at' (g.at_ + 2 + (n : Int)) = g2
        have hW2 : Wd m g2 := hg2 ▸ hW.at' _
        have hR2 : Run g g2 0 6 := hg2 ▸ Run.at' g (by lia) (by lia)
        have hll : (gs.map V.int).length = n := by rw [List.length_map]; exact hgl
        have hgne : gs ≠ [] := by intro e; subst e; simp at hgl; lia
        walk_at "mine vc"
        refine ⟨⟨Int.natCast_nonneg _, by lia⟩, ?_⟩
        walk_at "mine vc"
        refine forT_idx (fun i st => ∃ L : Str → Option V, st = ⟨L, .none, g2⟩ ∧ L (Str.ofString "some") = some (.lst (gs.map .int)) ∧ L (Str.ofString "world") = some (.obj .world) ∧
          L (Str.ofString "due") = some (.lst ((List.range (2 ^ m)).map fun row => .int (if i = n then num g2 row gs else psum (bitOf g2 row gs) 0 i)))) ?_ ?_ _ ?_
        · rintro i it st rec hit hrec ⟨L, rfl, hLs, hLw, hLd⟩
          obtain ⟨hil, rfl⟩ := enum_at hit
          have hi : i < n := by lia
          have hin : ¬ i = n := by lia
          clear hit
          have hgi : Base m gs[i] := hgs _ (List.getElem_mem _)
          have hbit : ∀ row, bitOf g2 row gs i = lit g2 row gs[i] := fun row => by unfold bitOf; rw [place_lt (by lia)]
          have step : ∀ wv : Int, (∀ row, (if i + 1 = n then num g2 row gs else psum (bitOf g2 row gs) 0 (i + 1)) = psum (bitOf g2 row gs) 0 i + wv * b2i (lit g2 row gs[i])) →
              (∀ L', L' (Str.ofString "some") = some (.lst (gs.map .int)) → L' (Str.ofString "world") = some (.obj .world) →
                L' (Str.ofString "due") = some (.lst ((List.range (2 ^ m)).map fun row => .int (psum (bitOf g2 row gs) 0 i + wv * b2i (lit g2 row gs[i])))) → rec ⟨L', .none, g2⟩) := by
            intro wv hwv L' h1 h2 h3
            refine hrec _ ⟨L', rfl, h1, h2, ?_⟩
            rw [h3]
            congr 2
            apply List.map_congr_left
            intro row _
            rw [hwv row]
          replace hrec : Hide _ := hrec
          replace step : Hide _ := step
          clear hg2
          replace hbit : Hide _ := hbit
          replace hW2 : Hide _ := hW2
          dsimp only
          have hti : ((i : Int)).toNat = i := Int.toNat_natCast i
          simp only [if_neg hin] at hLd
          by_cases hlast : (i : Int) = (n : Int) - 1
          · have hdec : decide ((i : Int) = (n : Int) - 1) = true := decide_eq_true hlast
            have hni : n = i + 1 := by lia
            clear hlast
            replace hni : Hide _ := hni
            walk_at "mine vs"
            refine ⟨⟨by lia, by lia⟩, ?_⟩
            walk_at "mine vs"
            refine ⟨m, gs[i], rfl, hW2, hgi, ?_⟩
            unfold truthsV zipIt
            dsimp only
            rw [zip_range, List.map_map]
            change compT _ _ _ (List.map (fun row => It.two (V.int (psum (bitOf g2 row gs) 0 i)) (V.bool (lit g2 row gs[i]))) (List.range (2 ^ m))) [] _ _
            refine compT_map (List.range (2 ^ m)) _ (fun row => .int (psum (bitOf g2 row gs) 0 i + (-(1 * 2 ^ i)) * b2i (lit g2 row gs[i]))) (fun st => ∃ L : Str → Option V, st = ⟨L, .none, g2⟩ ∧ L (Str.ofString "worth") = some (.int (-(1 * 2 ^ i)))) ?_ ?_ _ ?_
            · rintro row hrow acc st rec' ⟨L', rfl, hL'⟩ hrec'
              replace hrec' : Hide _ := hrec'
              dsimp only
              generalize psum (bitOf g2 row gs) 0 i = pp at hrec' ⊢
              generalize lit g2 row gs[i] = bb at hrec' ⊢
              have hK : rec' (acc ++ [V.int (pp + (-(1 * 2 ^ i)) * b2i bb)]) (((St.mk L' .none g2).set (Str.ofString "early") (V.int pp)).set (Str.ofString "holds") (V.bool bb)) := hrec' _ ⟨_, rfl, by simp (decide := true) only [v_set_loc, if_false]; exact hL'⟩
              clear hrec' hrec step hbit hW2 hP
              cases bb with
              | true =>
                rw [show (-(1 * 2 ^ i)) * b2i true = (-(1 * 2 ^ i)) from Int.mul_one _] at hK
                replace hK : Hide _ := hK
                walk_at "mine vs"
                exact hK
              | false =>
                rw [show (-(1 * 2 ^ i)) * b2i false = 0 from Int.mul_zero _] at hK
                replace hK : Hide _ := hK
                walk_at "mine vs"
                exact hK
            · rintro st ⟨L', rfl, hL'⟩
              walk_at "mine vs"
              refine (show ∀ wv : Int, _ from step) (-(1 * 2 ^ i)) ?_ _ ?_ ?_ ?_
              · intro row
                rw [← (show ∀ row, _ from hbit) row]
                rw [if_pos (show i + 1 = n from (show n = i + 1 from hni).symm), num_psum g2 row hgne, hgl, show n - 1 = i from by rw [show n = i + 1 from hni]; rfl, Int.one_mul]
              · simp (decide := true) only [v_set_loc, if_false]; exact hLs
              · simp (decide := true) only [v_set_loc, if_false]; exact hLw
              · simp (decide := true) only [v_set_loc, if_true]
            · exact ⟨_, rfl, by simp (decide := true) only [v_inner_loc, v_set_loc, if_true, if_false]⟩
          · walk_at "mine vs"
            refine ⟨⟨by lia, by lia⟩, ?_⟩
            walk_at "mine vs"
            refine ⟨m, gs[i], rfl, hW2, hgi, ?_⟩
            unfold truthsV zipIt
            dsimp only
            rw [zip_range, List.map_map]
            change compT _ _ _ (List.map (fun row => It.two (V.int (psum (bitOf g2 row gs) 0 i)) (V.bool (lit g2 row gs[i]))) (List.range (2 ^ m))) [] _ _
            refine compT_map (List.range (2 ^ m)) _ (fun row => .int (psum (bitOf g2 row gs) 0 i + (1 * 2 ^ i) * b2i (lit g2 row gs[i]))) (fun st => ∃ L : Str → Option V, st = ⟨L, .none, g2⟩ ∧ L (Str.ofString "worth") = some (.int (1 * 2 ^ i))) ?_ ?_ _ ?_
            · rintro row hrow acc st rec' ⟨L', rfl, hL'⟩ hrec'
              replace hrec' : Hide _ := hrec'
              dsimp only
              generalize psum (bitOf g2 row gs) 0 i = pp at hrec' ⊢
              generalize lit g2 row gs[i] = bb at hrec' ⊢
              have hK : rec' (acc ++ [V.int (pp + (1 * 2 ^ i) * b2i bb)]) (((St.mk L' .none g2).set (Str.ofString "early") (V.int pp)).set (Str.ofString "holds") (V.bool bb)) := hrec' _ ⟨_, rfl, by simp (decide := true) only [v_set_loc, if_false]; exact hL'⟩
              clear hrec' hrec step hbit hW2 hP
              cases bb with
              | true =>
                rw [show (1 * 2 ^ i) * b2i true = (1 * 2 ^ i) from Int.mul_one _] at hK
                replace hK : Hide _ := hK
                walk_at "mine vs"
                exact hK
              | false =>
                rw [show (1 * 2 ^ i) * b2i false = 0 from Int.mul_zero _] at hK
                replace hK : Hide _ := hK
                walk_at "mine vs"
                exact hK
            · rintro st ⟨L', rfl, hL'⟩
              walk_at "mine vs"
              refine (show ∀ wv : Int, _ from step) (1 * 2 ^ i) ?_ _ ?_ ?_ ?_
              · intro row
                rw [← (show ∀ row, _ from hbit) row]
                rw [if_neg (by lia), psum_snoc, Nat.zero_add, Int.one_mul]
              · simp (decide := true) only [v_set_loc, if_false]; exact hLs
              · simp (decide := true) only [v_set_loc, if_false]; exact hLw
              · simp (decide := true) only [v_set_loc, if_true]
            · exact ⟨_, rfl, by simp (decide := true) only [v_inner_loc, v_set_loc, if_true, if_false]⟩
        · rintro st ⟨L, rfl, hLs, hLw, hLd⟩
          rw [enum_len, hgl] at hLd
          simp only [if_true] at hLd
          walk_at "mine vs"
          refine ⟨by show 2 ≤ 16777216; lia, ?_⟩
          have hgates : Num g2 gs := ⟨hgne, fun x hx => (hgs x hx).gate hW2.inv⟩
          exact hP _ g2 (hR2.le (by lia) (by lia)) hW2.inv (Right.of hgates (by lia) fun row _ => rfl)
        · refine ⟨_, rfl, rfl, rfl, ?_⟩
          have hn0 : ¬ 0 = n := by lia
          simp only [if_neg hn0]
          show some (V.lst (List.replicate (2 ^ m) (V.int 0))) = some (V.lst (List.map (fun row => V.int 0) (List.range (2 ^ m))))
          rw [List.map_const', List.length_range]
      · exact ⟨_, [], rfl, congrArg (St.mk _ _) (show g.at' (g.at_ + 1 + 1) = g.at' (g.at_ + 2 + 0) by rw [Int.add_zero, Int.add_assoc]; rfl), rfl, rfl, rfl, by simp⟩

theorem f_reckoned (c : Cx) : CallS c 11 (.ref 285) S_reckoned := by
  refine' callS_intro ?kk ?ho ?hcd ?hbind ?hkind ?hfree ?hco ?hgen ?hk ?hB ?hS
  case ho => (show (hd.heap_39 _).lookup _ = _; with_unfolding_all rfl)
  case hcd => kernel_rfl
  case hkind => rfl
  case hfree => rfl
  case hco => rfl
  case hgen => rfl
  case hk => rfl
  case kk => exact 2
  case hbind => (intro xs hx; obtain ⟨a, b, ee⟩ := len2 hx; subst ee; rfl)
  case hB =>
    repeat' first
      | (with_reducible refine' s_nil)
      | (with_reducible refine' s_cons ?_ ?_)
      | (with_reducible refine' s_ret ?_)
      | (with_reducible refine' s_if ?_ ?_ ?_)
      | (with_reducible refine' e_int)
      | (with_reducible refine' e_str)
      | ((with_reducible refine' e_name2 ?h1 ?h2); (case h1 | h2 => (intros; with_unfolding_all rfl)))
      | (with_reducible refine' e_if ?_ ?_ ?_)
      | ((with_reducible refine' ot_c_eq ?_ ?_ ?h1); (case h1 => with_unfolding_all rfl))
      | ((with_reducible refine' t_of ?_ ?h1); (case h1 => (intros; with_unfolding_all rfl)))
      | (with_reducible refine' e_neg ?_)
      | (with_reducible refine' o_b_add2 ?_ ?_)
      | (with_reducible refine' o_b_sub ?_ ?_)
      | (with_reducible refine' o_b_mul2 ?_ ?_)
      | ((with_reducible refine' e_subn ?_ ?h1 ?h2 ?h3); (case h1 | h2 | h3 => (intros; with_unfolding_all rfl)))
      | (with_reducible refine' a_nil)
      | ((with_reducible refine' a_cons ?_ ?_ ?h1); (case h1 => (intros; with_unfolding_all rfl)))
      | (with_reducible refine' e_tup ?_)
      | (with_reducible refine' e_lst ?_)
      | (with_reducible refine' i_nil)
      | ((with_reducible refine' i_zip ?hfe ?_ ?h1 ?h2); (case hfe => walk_at "mine callee"); (case h1 | h2 => (intros; with_unfolding_all rfl)))
      | (with_reducible refine' i_pairs ?_)
      | (with_reducible refine' i_val ?_)
      | ((with_reducible refine' e_comp ?ht ?_ ?_ ?_ ?h1 ?h2 ?h3 ?h4); (case ht => walk_at "mine tgt"); (case h2 => decide); (case h1 | h3 | h4 => (intros; with_unfolding_all rfl)))
      | ((with_reducible refine' e_listzip ?hfl ?hfz ?_ ?h1 ?h2 ?h3 ?h4); (case hfl => walk_at "mine callee"); (case hfz => walk_at "mine callee"); (case h1 | h2 | h3 | h4 => (intros; with_unfolding_all rfl)))
      | ((with_reducible refine' e_call ?hfe ?hC ?hm ?_ ?h1 ?h2); (case hfe => walk_at "mine callee"); (case hC => (first | exact f_draw _ | exact c_len | exact f_plus _ | exact f_less _ | exact f_negated _ | exact f_gate _ | exact f_truths _ | exact f_chosen _ | exact f_total _ | exact f_counted _)); (case hm => decide); (case h1 | h2 => (intros; with_unfolding_all rfl)))
      | ((with_reducible refine' e_meth (k := .bin) ?_ ?hC ?hm ?_ ?h1 ?h2 ?h3 ?h4 ?h5 ?h6); (case h1 => with_unfolding_all rfl); (case hC => (first | exact f_draw _ | exact c_len | exact f_plus _ | exact f_less _ | exact f_negated _ | exact f_gate _ | exact f_truths _ | exact f_chosen _ | exact f_total _ | exact f_counted _)); (case hm => decide); (case h2 => kernel_rfl); (case h3 => kernel_rfl); (case h4 | h5 | h6 => (intros; with_unfolding_all rfl)))
      | ((with_reducible refine' s_comp ?ht ?_ ?_ ?_ ?h1 ?h2 ?h3 ?h4 ?h5 ?h6); (case h5 => with_unfolding_all rfl); (case h6 => walk_at "mine swap"); (case ht => walk_at "mine tgt"); (case h2 => decide); (case h1 | h3 | h4 => (intros; with_unfolding_all rfl)))
      | ((with_reducible refine' s_swap ?_ ?h1 ?h2 ?h3 ?h4); (case h4 => walk_at "mine swapped"); (case h1 | h2 | h3 => (intros; with_unfolding_all rfl)))
      | ((with_reducible refine' s_asgn ?_ ?h1 ?h2); (case h1 => first | exact .inl rfl | exact .inr rfl); (case h2 => walk_at "mine plain"))
  rintro args g P ⟨m, w, rfl, hW, hnum, hne, hnl, w1, w2, hcap, ha, ha2, hP⟩
  refine ⟨rfl, ?_⟩
  walk_at "mine vc"
  have m3 := pow3 hW.m3
  have hm3 := hW.m3
  have hnp : 0 < g.numbers.length := List.length_pos_iff.mpr hne
  replace hP : Hide _ := hP
  refine ⟨6, rfl, by decide, by decide, ha, by lia, fun way hway => ?_⟩
  refine ⟨by show 2 ≤ 16777216; lia, ?_⟩
  walk_at "mine vc"
  refine ⟨g.numbers.length, rfl, hnp, by lia, by show 0 ≤ g.at_ + 1; lia, by show g.at_ + 1 + 1 ≤ _; lia, fun i hi => ?_⟩
  refine ⟨g.numbers[i], ix_nat _ _ hi, ?_⟩
  refine ⟨g.numbers.length, rfl, hnp, by lia, by show 0 ≤ g.at_ + 1 + 1; lia, by show g.at_ + 1 + 1 + 1 ≤ _; lia, fun j hj => ?_⟩
  refine ⟨g.numbers[j], ix_nat _ _ hj, ?_⟩
  obtain ⟨a, ea, ha1, ha2'⟩ := right_pair (hnum _ (List.getElem_mem hi))
  obtain ⟨b, eb, hb1, hb2'⟩ := right_pair (hnum _ (List.getElem_mem hj))
  rw [ea, eb]
  walk_at "mine vc"
  generalize hz : g.at_ + 1 + 1 + 1 = z
  have hW3 : Wd m (g.at' z) := hW.at' _
  have hR3 : Run g (g.at' z) 0 3 := Run.at' g (by lia) (by lia)
  refine ⟨by show 2 ≤ 16777216; lia, ?_⟩
  walk_at "mine vc"
  refine ⟨_, rfl, _, rfl, ?_⟩
  refine ⟨by simp, ?_⟩
  rw [zip_range, List.map_map]
  have big : ∀ row, (num g row a).natAbs < 2 ^ 64 := fun row => by have := num_small (g := g) (row := row) (show a.length ≤ 60 by lia); lia
  have szz : (2 : Nat) ≤ sizeLine := by show 2 ≤ 16777216; lia
  have hna : ∀ {g' : G} {n d : Nat}, Run (g.at' z) g' n d → ∀ row, num g' row a = num g row a := fun hr row => num_run hW3.inv hr (ha1.run hR3) row
  have hnb : ∀ {g' : G} {n d : Nat}, Run (g.at' z) g' n d → ∀ row, num g' row b = num g row b := fun hr row => num_run hW3.inv hr (hb1.run hR3) row
  have fin : ∀ (f : Nat → Int) (ro : List Int) (g' : G) (n d : Nat), Run (g.at' z) g' n d → n ≤ 1600 → d ≤ 5 → Inv m g' → Num g' ro → ro.length ≤ w + 2 → (∀ row, f row = num g' row ro) → P (.tup [.tup (ro.map .int), .lst ((List.range (2 ^ m)).map fun row => .int (f row))]) g' :=
    fun f ro g' n d hR hn hd hI' hro hl hf => hP _ g' ((hR3.trans hR).le (by lia) (by lia)) hI' (Right.of hro hl fun row _ => hf row)
  clear hP hnum ea eb
  have hIz := hW3.inv
  have hrz := hW3
  have haz := ha1.run hR3
  have hbz := hb1.run hR3
  replace fin : Hide _ := fin
  replace hrz : Hide _ := hrz
  clear hW3
  by_cases h0 : (way : Int) = 0
  · replace hIz : Hide _ := hIz
    walk_at "mine vs"
    refine ⟨_, rfl, _, rfl, m, a, b, rfl, hIz, haz, hbz, by lia, by lia, by show g.kinds.length + 400 ≤ _; lia, fun r g' hE hI' hr hl hv => ?_⟩
    refine ⟨(List.range (2 ^ m)).map fun row => (.int (num g row a), .int (num g row b)), by rw [List.map_map], ?_⟩
    rw [List.map_map]
    refine compT_map (List.range (2 ^ m)) _ (fun row => .int (num g row a + num g row b)) (fun st => st.g = g') ?_ ?_ _ rfl
    · rintro row hrow acc st rec hK hrec
      replace hrec : Hide _ := hrec
      show (fun st1 => _) ((St.set st (Str.ofString "a") (V.int (num g row a))).set (Str.ofString "b") (V.int (num g row b)))
      walk_at "mine vs"
      exact hrec _ hK
    · rintro st hK
      refine ⟨szz, ?_⟩
      rw [hK]
      exact fin _ r g' _ _ hE.run (by lia) (by lia) hI' hr (by lia) fun row => by rw [hv row, hna hE.run, hnb hE.run]
  by_cases h1 : (way : Int) = 1
  · replace hIz : Hide _ := hIz
    walk_at "mine vs"
    refine ⟨_, rfl, _, rfl, m, a, b, rfl, hIz, haz, hbz, by lia, by lia, by show g.kinds.length + 400 ≤ _; lia, fun r g' hE hI' hr hl hv => ?_⟩
    refine ⟨(List.range (2 ^ m)).map fun row => (.int (num g row a), .int (num g row b)), by rw [List.map_map], ?_⟩
    rw [List.map_map]
    refine compT_map (List.range (2 ^ m)) _ (fun row => .int (num g row a - num g row b)) (fun st => st.g = g') ?_ ?_ _ rfl
    · rintro row hrow acc st rec hK hrec
      replace hrec : Hide _ := hrec
      show (fun st1 => _) ((St.set st (Str.ofString "a") (V.int (num g row a))).set (Str.ofString "b") (V.int (num g row b)))
      walk_at "mine vs"
      exact hrec _ hK
    · rintro st hK
      refine ⟨szz, ?_⟩
      rw [hK]
      exact fin _ r g' _ _ hE.run (by lia) (by lia) hI' hr (by lia) fun row => by rw [hv row, hna hE.run, hnb hE.run]
  by_cases h2 : (way : Int) = 2
  · replace hIz : Hide _ := hIz
    walk_at "mine vs"
    refine ⟨_, rfl, m, a, rfl, hIz, haz, by lia, by show g.kinds.length + 400 ≤ _; lia, fun r g' hE hI' hr hl hv => ?_⟩
    refine ⟨_, rfl, ?_⟩
    rw [v_iter_l, List.map_map]
    refine compT_map (List.range (2 ^ m)) _ (fun row => .int (- num g row a)) (fun st => st.g = g') ?_ ?_ _ rfl
    · rintro row hrow acc st rec hK hrec
      replace hrec : Hide _ := hrec
      show (fun st1 => _) (St.set st (Str.ofString "a") (V.int (num g row a)))
      walk_at "mine vs"
      exact hrec _ hK
    · rintro st hK
      refine ⟨szz, ?_⟩
      rw [hK]
      exact fin _ r g' _ _ hE.run (by lia) (by lia) hI' hr (by lia) fun row => by rw [hv row, hna hE.run]
  by_cases h3 : (way : Int) = 3
  · replace hIz : Hide _ := hIz
    walk_at "mine vs"
    refine ⟨m, rfl, hrz, by show 0 ≤ z; lia, by show z + 1 ≤ _; lia, fun t ht => ?_⟩
    have hW4 : Wd m (g.at' (z + 1)) := hW.at' _
    have hR4 : Run (g.at' z) (g.at' (z + 1)) 0 1 := Run.at' (g.at' z) (by show z ≤ z + 1; lia) (by show z + 1 ≤ z + (1 : Nat); lia)
    have hIw := hW4.inv
    replace hW4 : Hide _ := hW4
    replace hIw : Hide _ := hIw
    walk_at "mine vs"
    refine ⟨m, t, rfl, hW4, ht, ?_⟩
    unfold truthsV zipIt
    dsimp only
    rw [zip_range, List.map_map]
    change compT _ _ _ (List.map (fun row => It.two (V.bool (lit (g.at' (z + 1)) row t)) (V.tup [.int (num g row a), .int (num g row b)])) (List.range (2 ^ m))) [] _ _
    refine compT_map (List.range (2 ^ m)) _ (fun row => .int (if lit (g.at' (z + 1)) row t = true then num g row a else num g row b)) (fun st => st.g = g.at' (z + 1)) ?_ ?_ _ rfl
    · rintro row hrow acc st rec hK hrec
      replace hrec : Hide _ := hrec
      dsimp only
      generalize lit (g.at' (z + 1)) row t = bb at hrec ⊢
      clear hIw hR4 fin hna hnb
      cases bb with
      | true =>
        walk_at "mine vs"
        exact ⟨_, rfl, hrec _ hK⟩
      | false =>
        walk_at "mine vs"
        exact ⟨_, rfl, hrec _ hK⟩
    · rintro st hK
      rw [hK]
      have hIw' : Inv m (g.at' (z + 1)) := hIw
      walk_at "mine vc"
      refine ⟨_, rfl, _, rfl, m, t, a, b, rfl, hIw, ht.gate hIw, haz, hbz, by lia, by lia, by show g.kinds.length + 400 ≤ _; lia, fun r g' hE hI' hr hl hv => ⟨szz, ?_⟩⟩
      exact fin _ r g' _ _ (hR4.trans hE.run) (by lia) (by lia) hI' hr (by lia) fun row => by
        rw [hv row, hna (hR4.trans hE.run), hnb (hR4.trans hE.run), lit_ext hIw' hE (ht.gate hIw')]
  by_cases h4 : (way : Int) = 4
  · replace hIz : Hide _ := hIz
    walk_at "mine vs"
    refine ⟨_, rfl, _, rfl, _, rfl, by show 3 ≤ 16777216; lia, m, w, [a, b, a], rfl, hIz, ?_, by show 3 ≤ 4; lia, by lia, by lia, hcap, fun r g' hE hI' hr hl hv => ?_⟩
    · intro ns h
      simp only [List.mem_cons, List.not_mem_nil, or_false] at h
      rcases h with rfl | rfl | rfl
      · exact ⟨haz, ha2'⟩
      · exact ⟨hbz, hb2'⟩
      · exact ⟨haz, ha2'⟩
    · refine ⟨(List.range (2 ^ m)).map fun row => (.int (num g row a), .int (num g row b)), by rw [List.map_map], ?_⟩
      rw [List.map_map]
      refine compT_map (List.range (2 ^ m)) _ (fun row => .int (2 * num g row a + num g row b)) (fun st => st.g = g') ?_ ?_ _ rfl
      · rintro row hrow acc st rec hK hrec
        replace hrec : Hide _ := hrec
        show (fun st1 => _) ((St.set st (Str.ofString "a") (V.int (num g row a))).set (Str.ofString "b") (V.int (num g row b)))
        walk_at "mine vs"
        exact hrec _ hK
      · rintro st hK
        refine ⟨szz, ?_⟩
        rw [hK]
        exact fin _ r g' _ _ hE.run (by lia) (by lia) hI' hr (by lia) fun row => by
          rw [hv row]
          simp only [List.map_cons, List.map_nil, List.sum_cons, List.sum_nil, hna hE.run, hnb hE.run]
          lia
  · replace hIz : Hide _ := hIz
    walk_at "mine vs"
    refine ⟨m, rfl, hrz, hcap, by show 0 ≤ z; lia, by show z + 5 ≤ _; lia, fun v g' hR hI' hr => ?_⟩
    obtain ⟨ns, rfl, q1, q2⟩ := right_pair hr
    exact fin (fun row => num g' row ns) ns g' _ _ hR (by lia) (by lia) hI' q1 (by lia) fun row => rfl

noncomputable def knownP (m : Nat) (g : G) (n : Nat) : List V := (List.range n).map fun k : Nat => .lst (if k = 0 then [] else truthsV m g (k : Int))
theorem f_known (c : Cx) : CallS c 2 (.ref 290) S_known := by
  refine' callS_intro ?kk ?ho ?hcd ?hbind ?hkind ?hfree ?hco ?hgen ?hk ?hB ?hS
  case ho => (show (hd.heap_39 _).lookup _ = _; with_unfolding_all rfl)
  case hcd => kernel_rfl
  case hkind => rfl
  case hfree => rfl
  case hco => rfl
  case hgen => rfl
  case hk => rfl
  case kk => exact 1
  case hbind => (intro xs hx; obtain ⟨a, ee⟩ := len1 hx; subst ee; rfl)
  case hB =>
    repeat' first
      | (with_reducible refine' s_nil)
      | (with_reducible refine' s_cons ?_ ?_)
      | (with_reducible refine' s_ret ?_)
      | (with_reducible refine' s_if ?_ ?_ ?_)
      | ((with_reducible refine' s_for ?ht ?_ ?_ ?h2); (case ht => walk_at "mine tgt"); (case h2 => (intros; with_unfolding_all rfl)))
      | (with_reducible refine' e_int)
      | (with_reducible refine' e_str)
      | (with_reducible refine' e_bool)
      | ((with_reducible refine' e_name2 ?h1 ?h2); (case h1 | h2 => (intros; with_unfolding_all rfl)))
      | ((with_reducible refine' oe_c_gt ?_ ?_ ?h1); (case h1 => with_unfolding_all rfl))
      | ((with_reducible refine' ot_c_eq ?_ ?_ ?h1); (case h1 => with_unfolding_all rfl))
      | ((with_reducible refine' oe_c_eq ?_ ?_ ?h1); (case h1 => with_unfolding_all rfl))
      | ((with_reducible refine' ot_c_ne ?_ ?_ ?h1); (case h1 => with_unfolding_all rfl))
      | (with_reducible refine' o_b_add2 ?_ ?_)
      | (with_reducible refine' o_b_shl ?_ ?_)
      | ((with_reducible refine' e_subn ?_ ?h1 ?h2 ?h3); (case h1 | h2 | h3 => (intros; with_unfolding_all rfl)))
      | ((with_reducible refine' e_sub ?_ ?_ ?h1); (case h1 => (intros; with_unfolding_all rfl)))
      | (with_reducible refine' a_nil)
      | ((with_reducible refine' a_cons ?_ ?_ ?h1); (case h1 => (intros; with_unfolding_all rfl)))
      | (with_reducible refine' e_tup ?_)
      | (with_reducible refine' e_lst ?_)
      | (with_reducible refine' i_nil)
      | (with_reducible refine' i_one ?_)
      | (with_reducible refine' i_val ?_)
      | ((with_reducible refine' e_comp ?ht ?_ ?_ ?_ ?h1 ?h2 ?h3 ?h4); (case ht => walk_at "mine tgt"); (case h2 => decide); (case h1 | h3 | h4 => (intros; with_unfolding_all rfl)))
      | ((with_reducible refine' e_call ?hfe ?hC ?hm ?_ ?h1 ?h2); (case hfe => walk_at "mine callee"); (case hC => (first | exact c_range | exact c_len | exact f_size _ | exact f_kind _ | exact f_truths _ | exact f_parts _ | exact c_abs)); (case hm => decide); (case h1 | h2 => (intros; with_unfolding_all rfl)))
      | ((with_reducible refine' e_append ?_ ?h1 ?h2 ?h3 ?h4); (case h1 | h2 | h3 | h4 => (intros; with_unfolding_all rfl)))
      | ((with_reducible refine' e_meth (k := .circ) ?_ ?hC ?hm ?_ ?h1 ?h2 ?h3 ?h4 ?h5 ?h6); (case h1 => with_unfolding_all rfl); (case hC => (first | exact c_range | exact c_len | exact f_size _ | exact f_kind _ | exact f_truths _ | exact f_parts _ | exact c_abs)); (case hm => decide); (case h2 => kernel_rfl); (case h3 => kernel_rfl); (case h4 | h5 | h6 => (intros; with_unfolding_all rfl)))
      | ((with_reducible refine' s_ownlst ?_ ?h1 ?h2); (case h1 => first | exact .inl rfl | exact .inr rfl); (case h2 => (intros; with_unfolding_all rfl)))
      | ((with_reducible refine' s_swap ?_ ?h1 ?h2 ?h3 ?h4); (case h4 => walk_at "mine swapped"); (case h1 | h2 | h3 => (intros; with_unfolding_all rfl)))
      | ((with_reducible refine' s_asgn ?_ ?h1 ?h2); (case h1 => first | exact .inl rfl | exact .inr rfl); (case h2 => walk_at "mine plain"))
      | ((with_reducible refine' s_expr ?_ ?h2); (case h2 => (intros; with_unfolding_all rfl)))
  rintro args g P ⟨m, rfl, hW, hcap, hP⟩
  refine ⟨rfl, ?_⟩
  walk_at "mine vc"
  have hlen : (g.inputs.map V.int).length = m := by rw [List.length_map, hW.inputs]; simp
  have m3 := pow3 hW.m3
  have hm3 := hW.m3
  have hbig := hW.inv.big
  have hcap' : g.kinds.length ≤ 1000000 := hcap
  have ep : (1 * 2 ^ m : Int) = ((2 ^ m : Nat) : Int) := by rw [Int.one_mul, Int.natCast_pow]; rfl
  simp only [hlen, Int.toNat_natCast, ep]
  refine ⟨hW.ready, ⟨by lia, by lia⟩, small_nat (by lia), by show 2 ≤ 16777216; lia, ?_⟩
  walk_at "mine vc"
  refine ⟨by rw [rangeSize_nat]; show _ ≤ 16777216; lia, ?_⟩
  rw [rng_nat]
  refine compT_map (List.range (2 ^ m)) _ (fun _ => .bool true) (fun st => st.g = g) ?_ ?_ _ rfl
  · rintro row hrow acc st rec hK hrec
    exact hrec (st.set (Str.ofString "row") (.int (row : Int))) hK
  · rintro st hK
    rw [hK]
    walk_at "mine vc"
    refine ⟨by show 2 ≤ 16777216; lia, fun ad => ?_⟩
    walk_at "mine vc"
    refine ⟨rfl, ?_⟩
    have e1 : ((g.kinds.length : Int) - 1 + 1) = ((g.kinds.length : Nat) : Int) := by lia
    walk_at "mine vc"
    rw [e1, rng_from (by lia)]
    refine ⟨small_one (by lia) (by lia) (by lia) (by lia), Nat.le_trans rng_from_size (by show _ ≤ 16777216; lia), ?_⟩
    walk_at "mine gof"
    refine forT_idx (fun i st => ∃ (L : Str → Option V) (kn : List V), st = ⟨L, .lst (Str.ofString "known") ad kn true, g⟩ ∧ kn = knownP m g (i + 2) ∧ L (Str.ofString "circuit") = some (.obj .circ) ∧ L (Str.ofString "world") = some (.obj .world) ∧ L (Str.ofString "rows") = some (.rng 0 ((2 ^ m : Nat) : Int) 1) ∧ L (Str.ofString "known") = none) ?_ ?_ _ ?_
    · rintro i it st rec hit hrec ⟨L, kn, rfl, hkn, hLc, hLw, hLr, hLk⟩
      have hi : i + 2 < g.kinds.length := by
        have := (List.getElem?_eq_some_iff.mp hit).1
        simp at this; lia
      obtain rfl : it = .one (.int ((i + 2 : Nat) : Int)) := by
        have hi' : i < g.kinds.length - 2 := by lia
        simp [hi'] at hit; rw [← hit]; simp
      clear hit
      have hknl : kn.length = i + 2 := by rw [hkn]; simp [knownP]
      have key : ∀ L' : Str → Option V, L' (Str.ofString "circuit") = some (.obj .circ) → L' (Str.ofString "world") = some (.obj .world) → L' (Str.ofString "rows") = some (.rng 0 ((2 ^ m : Nat) : Int) 1) → L' (Str.ofString "known") = none →
          rec ⟨L', .lst (Str.ofString "known") ad (kn ++ [.lst (truthsV m g ((i + 2 : Nat) : Int))]) true, g⟩ := by
        intro L' h1 h2 h3 h4
        refine hrec _ ⟨L', _, rfl, ?_, h1, h2, h3, h4⟩
        rw [hkn]
        unfold knownP
        rw [List.range_succ (n := i + 2), List.map_append]
        simp
      have hknix : ∀ k : Nat, k ≠ 0 → k < i + 2 → ix kn (k : Int) = some (.lst (truthsV m g (k : Int))) := by
        intro k h0 hk
        rw [ix_nat _ _ (by lia)]
        simp only [hkn, knownP, List.getElem_map, List.getElem_range, if_neg h0]
      clear hkn
      replace hrec : Hide _ := hrec
      replace key : Hide _ := key
      replace hP : Hide _ := hP
      replace hW' : Hide _ := hW
      have hna : (((i + 2 : Nat) : Int)).natAbs = i + 2 := Int.natAbs_natCast _
      dsimp only
      by_cases hin : i + 2 < m + 2
      · obtain ⟨q1, q2⟩ := hW.inv.inp (i + 2) (by lia) hin
        clear hknix
        walk_at "mine vs"
        refine ⟨((i + 2 : Nat) : Int), sInput, rfl, by rw [hna]; exact q1, ?_⟩
        walk_at "mine vs"
        refine ⟨m, _, rfl, hW, ⟨by lia, by rw [hna]; exact hin⟩, by show _ ≤ 16777216; lia, ?_⟩
        walk_at "mine vs"
        refine (show ∀ L' : Str → Option V, _ from key) _ ?_ ?_ ?_ ?_
        · simp (decide := true) only [v_set_loc, if_false]; exact hLc
        · simp (decide := true) only [v_set_loc, if_false]; exact hLw
        · simp (decide := true) only [v_set_loc, if_false]; exact hLr
        · simp (decide := true) only [v_set_loc, if_false]; exact hLk
      · obtain ⟨q1, ps, q2, q3⟩ := hW.inv.gate (i + 2) (by lia) hi
        replace hknix : Hide _ := hknix
        walk_at "mine vs"
        refine ⟨((i + 2 : Nat) : Int), sAnd, rfl, by rw [hna]; exact q1, ?_⟩
        have hsa : ¬ sAnd = Str.ofString "input" := by decide
        walk_at "mine vs"
        refine ⟨_, ps, rfl, by rw [hna]; exact q2, ?_⟩
        walk_at "mine vs"
        rw [rng_nat]
        refine ⟨by rw [rangeSize_nat]; show _ ≤ 16777216; lia, ?_⟩
        refine compT_map (List.range (2 ^ m)) _ (fun row => .bool (lit g row ((i + 2 : Nat) : Int))) (fun st => ∃ L' : Str → Option V, st = ⟨L', .lst (Str.ofString "known") ad kn false, g⟩ ∧ L' (Str.ofString "parts") = some (.tup (ps.map .int)) ∧ L' (Str.ofString "known") = none) ?_ ?_ _ ?_
        · rintro row hrow acc st rec' ⟨L', rfl, hp, hk⟩ hrec'
          have hrw : row < 2 ^ m := List.mem_range.mp hrow
          have key2 : rec' (acc ++ [V.bool (lit g row ((i + 2 : Nat) : Int))]) ((St.mk L' (.lst (Str.ofString "known") ad kn false) g).set (Str.ofString "row") (.int (row : Int))) := by
            refine hrec' _ ⟨_, rfl, ?_, ?_⟩
            · simp (decide := true) only [v_set_loc, if_false]; exact hp
            · simp (decide := true) only [v_set_loc, if_false]; exact hk
          rw [lit_and hW.inv q1 q2 (by lia) (fun p hp => (q3 p hp).2) row] at key2
          replace hrec' : Hide _ := hrec'
          replace key2 : Hide _ := key2
          clear hna
          dsimp only
          walk_at "mine vs"
          rw [List.map_map]
          refine compT_fm ps _ (fun p => if lit g row p = true then none else some (.int p)) (fun st => ∃ L2 : Str → Option V, st = ⟨L2, .lst (Str.ofString "known") ad kn false, g⟩ ∧ L2 (Str.ofString "row") = some (.int (row : Int)) ∧ L2 (Str.ofString "known") = none) ?_ ?_ _ ?_
          · rintro p hp' acc' st rec2 ⟨L2, rfl, hr, hk2⟩ hrec2
            obtain ⟨p0, plt⟩ := q3 p hp'
            have hgp : Gate g p := ⟨p0, by lia⟩
            have p0' : p.natAbs ≠ 0 := fun e => p0 (Int.natAbs_eq_zero.mp e)
            have i1 := (show ∀ k : Nat, _ from hknix) p.natAbs p0' plt
            have i2 : ix (truthsV m g (p.natAbs : Int)) (row : Int) = some (.bool (lit g row (p.natAbs : Int))) := by rw [ix_nat _ _ (by simpa [truthsV] using hrw)]; simp [truthsV]
            have hK : rec2 (acc' ++ (if lit g row p = true then none else some (V.int p)).toList) ((St.mk L2 (.lst (Str.ofString "known") ad kn false) g).set (Str.ofString "part") (.int p)) := by
              refine hrec2 _ ⟨_, rfl, ?_, ?_⟩
              · simp (decide := true) only [v_set_loc, if_false]; exact hr
              · simp (decide := true) only [v_set_loc, if_false]; exact hk2
            have hab := abs_lit hW.inv hgp row
            replace hrec2 : Hide _ := hrec2
            replace i1 : Hide _ := i1
            replace i2 : Hide _ := i2
            replace hK : Hide _ := hK
            dsimp only [Function.comp]
            walk_at "mine vs"
            refine ⟨_, i1, ?_⟩
            walk_at "mine vs"
            refine ⟨_, i2, ?_⟩
            walk_at "mine vs"
            have hK2 : rec2 (acc' ++ (if lit g row p = true then none else some (V.int p)).toList) ((St.mk L2 (.lst (Str.ofString "known") ad kn false) g).set (Str.ofString "part") (.int p)) := hK
            generalize lit g row p = bb at hK2 ⊢
            cases bb with
            | true =>
              have hK3 : rec2 acc' ((St.mk L2 (.lst (Str.ofString "known") ad kn false) g).set (Str.ofString "part") (.int p)) := by simpa using hK2
              exact hK3
            | false => exact hK2
          · rintro st ⟨L2, rfl, hr, hk2⟩
            dsimp only
            refine .inl ⟨ps.filterMap fun p => if lit g row p = true then none else some p, [], ?_, rfl, ?_⟩
            · rw [List.map_filterMap]
              congr 1
              funext p
              cases lit g row p <;> rfl
            · have e : decide ((ps.filterMap fun p => if lit g row p = true then none else some p) = []) = ps.all fun p => lit g row p := by
                rw [Bool.eq_iff_iff, decide_eq_true_eq, List.all_eq_true, List.filterMap_eq_nil_iff]
                constructor
                · intro q p hp
                  have := q p hp
                  cases h : lit g row p with
                  | true => rfl
                  | false => rw [h] at this; simp at this
                · intro q p hp
                  rw [if_pos (q p hp)]
              rw [e]
              exact key2
          · refine ⟨_, rfl, ?_, ?_⟩
            · simp (decide := true) only [v_inner_loc, v_set_loc, if_true, if_false]
            · simp (decide := true) only [v_inner_loc, v_set_loc, if_true, if_false]; exact hk
        · rintro st ⟨L', rfl, hp, hk⟩
          dsimp only
          refine ⟨by show _ ≤ 16777216; lia, ?_⟩
          walk_at "mine vs"
          refine (show ∀ L' : Str → Option V, _ from key) _ ?_ ?_ ?_ ?_
          · simp (decide := true) only [v_set_loc, if_false]; exact hLc
          · simp (decide := true) only [v_set_loc, if_false]; exact hLw
          · simp (decide := true) only [v_set_loc, if_false]; exact hLr
          · simp (decide := true) only [v_set_loc, if_false]; exact hLk
        · refine ⟨_, rfl, ?_, ?_⟩
          · simp (decide := true) only [v_inner_loc, v_set_loc, if_true, if_false]
          · simp (decide := true) only [v_inner_loc, v_set_loc, if_true, if_false]; exact hLk
    · rintro st ⟨L, kn, rfl, hkn, hLc, hLw, hLr, hLk⟩
      have hlen2 : (List.map (fun k : Nat => It.one (V.int ((k + 2 : Nat) : Int))) (List.range (g.kinds.length - 2))).length + 2 = g.kinds.length := by simp; lia
      rw [hlen2] at hkn
      replace hkn : Hide _ := hkn
      walk_at "mine vs"
      rw [show kn = knownP m g g.kinds.length from hkn]
      exact hP
    · refine ⟨_, _, rfl, ?_, rfl, rfl, rfl, rfl⟩
      unfold knownP truthsV
      have hl1 : ∀ row, lit g row (1 : Nat) = true := fun row => lit_one hW.inv row
      simp [List.range_succ]
      intro a _
      exact lit_one hW.inv a

theorem f_is_number (c : Cx) : CallS c 1 (.ref 295) S_is_number := by
  refine' callS_intro ?kk ?ho ?hcd ?hbind ?hkind ?hfree ?hco ?hgen ?hk ?hB ?hS
  case ho => (show (hd.heap_39 _).lookup _ = _; with_unfolding_all rfl)
  case hcd => kernel_rfl
  case hkind => rfl
  case hfree => rfl
  case hco => rfl
  case hgen => rfl
  case hk => rfl
  case kk => exact 3
  case hbind => (intro xs hx; obtain ⟨a, b, d, ee⟩ := len3 hx; subst ee; rfl)
  case hB =>
    repeat' first
      | (with_reducible refine' s_nil)
      | (with_reducible refine' s_cons ?_ ?_)
      | (with_reducible refine' s_ret ?_)
      | (with_reducible refine' s_if ?_ ?_ ?_)
      | ((with_reducible refine' s_for ?ht ?_ ?_ ?h2); (case ht => walk_at "mine tgt"); (case h2 => (intros; with_unfolding_all rfl)))
      | (with_reducible refine' e_int)
      | (with_reducible refine' e_bool)
      | ((with_reducible refine' e_name2 ?h1 ?h2); (case h1 | h2 => (intros; with_unfolding_all rfl)))
      | (with_reducible refine' e_if ?_ ?_ ?_)
      | ((with_reducible refine' oe_c_gt ?_ ?_ ?h1); (case h1 => with_unfolding_all rfl))
      | ((with_reducible refine' oe_c_eq ?_ ?_ ?h1); (case h1 => with_unfolding_all rfl))
      | ((with_reducible refine' ot_c_ne ?_ ?_ ?h1); (case h1 => with_unfolding_all rfl))
      | ((with_reducible refine' t_of ?_ ?h1); (case h1 => (intros; with_unfolding_all rfl)))
      | (with_reducible refine' e_neg ?_)
      | (with_reducible refine' o_b_sub ?_ ?_)
      | (with_reducible refine' o_b_shl ?_ ?_)
      | ((with_reducible refine' e_subn ?_ ?h1 ?h2 ?h3); (case h1 | h2 | h3 => (intros; with_unfolding_all rfl)))
      | ((with_reducible refine' e_sub ?_ ?_ ?h1); (case h1 => (intros; with_unfolding_all rfl)))
      | (with_reducible refine' a_nil)
      | ((with_reducible refine' a_cons ?_ ?_ ?h1); (case h1 => (intros; with_unfolding_all rfl)))
      | (with_reducible refine' i_nil)
      | (with_reducible refine' i_one ?_)
      | (with_reducible refine' i_val ?_)
      | ((with_reducible refine' e_comp ?ht ?_ ?_ ?_ ?h1 ?h2 ?h3 ?h4); (case ht => walk_at "mine tgt"); (case h2 => decide); (case h1 | h3 | h4 => (intros; with_unfolding_all rfl)))
      | ((with_reducible refine' e_call ?hfe ?hC ?hm ?_ ?h1 ?h2); (case hfe => walk_at "mine callee"); (case hC => (first | exact c_range | exact c_len | exact c_abs | exact c_sum)); (case hm => decide); (case h1 | h2 => (intros; with_unfolding_all rfl)))
      | ((with_reducible refine' s_asgn ?_ ?h1 ?h2); (case h1 => first | exact .inl rfl | exact .inr rfl); (case h2 => walk_at "mine plain"))
  rintro args g P ⟨m, g0, ns, rfl, hI, hm3, hn, hl, hP⟩
  refine ⟨rfl, ?_⟩
  walk_at "mine vc"
  have m3 := pow3 hm3
  have hdl : ((dues m g0 ns).map V.int).length = 2 ^ m := by unfold dues; simp
  have pn : 0 < ns.length := List.length_pos_iff.mpr hn.1
  rw [hdl]
  refine ⟨small_nat (by lia), by rw [rangeSize_nat]; show _ ≤ 16777216; lia, ?_⟩
  walk_at "mine gof"
  refine forT_idx (fun i st => ∃ L : Str → Option V, st = ⟨L, .none, g⟩ ∧ L (Str.ofString "known") = some (.lst (knownV m g0)) ∧ L (Str.ofString "gates") = some (.tup (ns.map .int)) ∧ L (Str.ofString "due") = some (.lst ((dues m g0 ns).map .int))) ?_ ?_ _ ?_
  · rintro row it st rec hit hrec ⟨L, rfl, hLk, hLg, hLd⟩
    obtain ⟨hi, rfl⟩ := rng_at hit
    clear hit
    replace hrec : Hide _ := hrec
    replace hP : Hide _ := hP
    dsimp only
    walk_at "mine vs"
    rw [List.map_map]
    refine compT_map ns _ (fun x => .bool (lit g0 row x)) (fun st => ∃ L : Str → Option V, st = ⟨L, .none, g⟩ ∧ L (Str.ofString "known") = some (.lst (knownV m g0)) ∧ L (Str.ofString "row") = some (.int (row : Int))) ?_ ?_ _ ?_
    · rintro x hx acc st rec' ⟨L', rfl, h1, h2⟩ hrec'
      have hgx := hn.2 x hx
      have h0 : ¬ x.natAbs = 0 := fun e => hgx.1 (Int.natAbs_eq_zero.mp e)
      have hK : rec' (acc ++ [V.bool (decide (lit g0 row (x.natAbs : Int) = decide (0 < x)))]) ((St.mk L' .none g).set (Str.ofString "g") (.int x)) := by
        rw [abs_lit hI hgx]
        exact hrec' _ ⟨_, rfl, by simp (decide := true) only [v_set_loc, if_false]; exact h1, by simp (decide := true) only [v_set_loc, if_false]; exact h2⟩
      replace hrec' : Hide _ := hrec'
      replace hK : Hide _ := hK
      have hk1 := known_at (m := m) hgx.2
      rw [if_neg h0] at hk1
      have hk2 : ix (truthsV m g0 (x.natAbs : Int)) (row : Int) = some (.bool (lit g0 row (x.natAbs : Int))) := by rw [ix_nat _ _ (by simpa [truthsV] using hi)]; simp [truthsV]
      replace hk1 : Hide _ := hk1
      replace hk2 : Hide _ := hk2
      dsimp only [Function.comp]
      walk_at "mine vs"
      refine ⟨_, hk1, ?_⟩
      walk_at "mine vs"
      refine ⟨_, hk2, ?_⟩
      walk_at "mine vs"
      exact hK
    · rintro st ⟨L', rfl, h1, h2⟩
      have hbl : (ns.map fun x => V.bool (lit g0 row x)).length = ns.length := List.length_map ..
      walk_at "mine vc"
      rw [hbl, rng_nat]
      refine ⟨small_nat (by lia), by rw [rangeSize_nat]; show _ ≤ 16777216; lia, ?_⟩
      refine compT_fm (List.range ns.length) _ (fun j => if bitOf g0 row ns j = true then some (.int (2 ^ j)) else none) (fun st => ∃ L : Str → Option V, st = ⟨L, .none, g⟩ ∧ L (Str.ofString "bits") = some (.lst (ns.map fun x => V.bool (lit g0 row x)))) ?_ ?_ _ ?_
      · rintro j hj acc st rec' ⟨L2, rfl, hb⟩ hrec'
        have hjl : j < ns.length := List.mem_range.mp hj
        have hbit : bitOf g0 row ns j = lit g0 row ns[j] := by unfold bitOf; rw [place_lt hjl]
        have hK : rec' (acc ++ (if bitOf g0 row ns j = true then some (V.int (2 ^ j)) else none).toList) ((St.mk L2 .none g).set (Str.ofString "place") (.int (j : Int))) := hrec' _ ⟨_, rfl, by simp (decide := true) only [v_set_loc, if_false]; exact hb⟩
        rw [hbit] at hK
        replace hrec' : Hide _ := hrec'
        replace hbit : Hide _ := hbit
        have hix : ix (ns.map fun x => V.bool (lit g0 row x)) (j : Int) = some (.bool (lit g0 row ns[j])) := by rw [ix_nat _ _ (by simpa using hjl)]; simp
        dsimp only
        generalize lit g0 row ns[j] = bb at hK hix
        have htn : ((j : Int)).toNat = j := Int.toNat_natCast j
        have h40 : (0 : Int) ≤ (j : Int) ∧ (j : Int) ≤ 1000 := by lia
        cases bb with
        | true =>
          replace hK : Hide _ := hK
          replace hix : Hide _ := hix
          walk_at "mine vs"
          refine ⟨_, hix, ?_⟩
          walk_at "mine vs"
          have hK2 : rec' (acc ++ [V.int (2 ^ j)]) ((St.mk L2 .none g).set (Str.ofString "place") (.int (j : Int))) := hK
          rw [← Int.one_mul (2 ^ j : Int)] at hK2
          exact hK2
        | false =>
          have hK2 : rec' acc ((St.mk L2 .none g).set (Str.ofString "place") (.int (j : Int))) := by simpa using hK
          replace hK : Hide _ := hK
          replace hK2 : Hide _ := hK2
          replace hix : Hide _ := hix
          walk_at "mine vs"
          refine ⟨_, hix, ?_⟩
          walk_at "mine vs"
          exact hK2
      · rintro st ⟨L2, rfl, hb⟩
        dsimp only
        have hlast : ix (ns.map fun x => V.bool (lit g0 row x)) (-1) = some (.bool (bitOf g0 row ns (ns.length - 1))) := by
          rw [ix_neg1 _ (by simpa using hn.1), List.getLast_map]; unfold bitOf; rw [place_ge hn.1 (Nat.le_refl _)]
        have hdue : ix ((dues m g0 ns).map V.int) (row : Int) = some (.int (num g0 row ns)) := by rw [ix_nat _ _ (by rw [hdl]; exact hi)]; simp [dues]
        have hval : psum (bitOf g0 row ns) 0 ns.length = num g0 row ns + 2 ^ ns.length * b2i (bitOf g0 row ns (ns.length - 1)) := by
          have h1 := psum_snoc (bitOf g0 row ns) (ns.length - 1) 0
          rw [Nat.zero_add, show ns.length - 1 + 1 = ns.length by lia] at h1
          have h2 : (2 : Int) ^ ns.length = 2 * 2 ^ (ns.length - 1) := by
            rw [Int.mul_comm, ← Int.pow_succ, show (ns.length - 1).succ = ns.length by lia]
          rw [h1, num_psum g0 row hn.1, h2, Int.neg_mul, Int.mul_assoc]; lia
        have hrec2 : ∀ L' : Str → Option V, L' (Str.ofString "known") = some (.lst (knownV m g0)) → L' (Str.ofString "gates") = some (.tup (ns.map .int)) → L' (Str.ofString "due") = some (.lst ((dues m g0 ns).map .int)) → rec ⟨L', .none, g⟩ := fun L' a b d => hrec _ ⟨L', rfl, a, b, d⟩
        rw [filterMap_int]
        refine ⟨_, rfl, ?_⟩
        rw [psum_filter, hval]
        walk_at "mine vc"
        refine ⟨_, hlast, ?_⟩
        generalize bitOf g0 row ns (ns.length - 1) = lb
        cases lb with
        | true =>
          walk_at "mine vc"
          simp only [hbl, hLd]
          walk_at "mine vc"
          refine ⟨⟨by lia, by lia⟩, _, hdue, ?_⟩
          have e : num g0 row ns + 2 ^ ns.length * b2i true - 1 * 2 ^ ((ns.length : Nat) : Int).toNat = num g0 row ns := by rw [Int.toNat_natCast]; simp [b2i]
          rw [e]
          simp only [v_ne, decide_true, Bool.not_true, v_onBool]
          walk_at "mine vc"
          refine hrec2 _ ?_ ?_ ?_
          · simp (decide := true) only [v_set_loc, if_false]; exact hLk
          · simp (decide := true) only [v_set_loc, if_false]; exact hLg
          · simp (decide := true) only [v_set_loc, if_false]; exact hLd
        | false =>
          walk_at "mine vc"
          simp only [hLd]
          walk_at "mine vc"
          refine ⟨_, hdue, ?_⟩
          have e : num g0 row ns + 2 ^ ns.length * b2i false - 0 = num g0 row ns := by simp [b2i]
          rw [e]
          simp only [v_ne, decide_true, Bool.not_true, v_onBool]
          walk_at "mine vc"
          refine hrec2 _ ?_ ?_ ?_
          · simp (decide := true) only [v_set_loc, if_false]; exact hLk
          · simp (decide := true) only [v_set_loc, if_false]; exact hLg
          · simp (decide := true) only [v_set_loc, if_false]; exact hLd
      · exact ⟨_, rfl, by simp (decide := true) only [v_inner_loc, v_set_loc, if_true, if_false]⟩
    · exact ⟨_, rfl, by simp (decide := true) only [v_inner_loc, v_set_loc, if_true, if_false]; exact hLk, by simp (decide := true) only [v_inner_loc, v_set_loc, if_true, if_false]⟩
  · rintro st ⟨L, rfl, hLk, hLg, hLd⟩
    walk_at "mine vc"
    exact hP
  · exact ⟨_, rfl, rfl, rfl, rfl⟩

theorem f_is_gate (c : Cx) : CallS c 1 (.ref 300) S_is_gate := by
  refine' callS_intro ?kk ?ho ?hcd ?hbind ?hkind ?hfree ?hco ?hgen ?hk ?hB ?hS
  case ho => (show (hd.heap_39 _).lookup _ = _; with_unfolding_all rfl)
  case hcd => kernel_rfl
  case hkind => rfl
  case hfree => rfl
  case hco => rfl
  case hgen => rfl
  case hk => rfl
  case kk => exact 3
  case hbind => (intro xs hx; obtain ⟨a, b, d, ee⟩ := len3 hx; subst ee; rfl)
  case hB =>
    repeat' first
      | (with_reducible refine' s_nil)
      | (with_reducible refine' s_cons ?_ ?_)
      | (with_reducible refine' s_ret ?_)
      | (with_reducible refine' e_int)
      | ((with_reducible refine' e_name2 ?h1 ?h2); (case h1 | h2 => (intros; with_unfolding_all rfl)))
      | ((with_reducible refine' oe_c_gt ?_ ?_ ?h1); (case h1 => with_unfolding_all rfl))
      | ((with_reducible refine' oe_c_eq ?_ ?_ ?h1); (case h1 => with_unfolding_all rfl))
      | ((with_reducible refine' e_subn ?_ ?h1 ?h2 ?h3); (case h1 | h2 | h3 => (intros; with_unfolding_all rfl)))
      | (with_reducible refine' a_nil)
      | ((with_reducible refine' a_cons ?_ ?_ ?h1); (case h1 => (intros; with_unfolding_all rfl)))
      | (with_reducible refine' i_nil)
      | (with_reducible refine' i_val ?_)
      | ((with_reducible refine' e_comp ?ht ?_ ?_ ?_ ?h1 ?h2 ?h3 ?h4); (case ht => walk_at "mine tgt"); (case h2 => decide); (case h1 | h3 | h4 => (intros; with_unfolding_all rfl)))
      | ((with_reducible refine' e_call ?hfe ?hC ?hm ?_ ?h1 ?h2); (case hfe => walk_at "mine callee"); (case hC => (first | exact c_abs)); (case hm => decide); (case h1 | h2 => (intros; with_unfolding_all rfl)))
  rintro args g P ⟨m, g0, x, rfl, hI, hm3, hx, hP⟩
  refine ⟨rfl, ?_⟩
  walk_at "mine vc"
  have h0 : ¬ x.natAbs = 0 := fun e => hx.1 (Int.natAbs_eq_zero.mp e)
  refine ⟨_, known_at hx.2, ?_⟩
  rw [if_neg h0, v_iter_l]
  unfold truthsV
  rw [List.map_map]
  refine compT_map (List.range (2 ^ m)) _ (fun row => .bool (lit g0 row x)) (fun st => st.g = g ∧ st.loc (Str.ofString "g") = some (.int x)) ?_ ?_ _ ⟨rfl, rfl⟩
  · rintro row hrow acc st rec ⟨hst, hL⟩ hrec
    have hK : rec (acc ++ [V.bool (decide (lit g0 row (x.natAbs : Int) = decide (0 < x)))]) (st.set (Str.ofString "holds") (.bool (lit g0 row (x.natAbs : Int)))) := by
      rw [abs_lit hI hx]
      exact hrec _ ⟨hst, by simp (decide := true) only [v_set_loc, if_false]; exact hL⟩
    replace hrec : Hide _ := hrec
    replace hK : Hide _ := hK
    show (fun st1 => _) (St.set st (Str.ofString "holds") (V.bool (lit g0 row (x.natAbs : Int))))
    walk_at "mine vs"
    exact hK
  · rintro st ⟨hst, hL⟩
    refine .inr ⟨(List.range (2 ^ m)).map fun row => lit g0 row x, (List.range (2 ^ m)).map fun row => lit g0 row x, by rw [List.map_map]; rfl, by rw [List.map_map]; rfl, ?_⟩
    rw [hst, decide_eq_true rfl]
    exact hP

/-- a list of statements that ends by handing back a truth value -/
noncomputable def Ends (c : Cx) (n : Nat) (sc : List (Str × NameKind)) (l : List Stmt) (T : St → (Bool → Prop) → Prop) : Prop :=
  ∀ (A : Around) (X : Act) (F : Addr → Prop) (s : Shared) (st : St) (P : Bool → Prop) (Q : Flow → Shared → Prop),
    Room A n → ActOk c sc X → Good c X F s.heap st → (∀ a, GM c a → X.h₀.get? a = none) → T st P →
    (∀ (c' : Cx) F' h' tk b st', Good c' X F' h' st' → Later F s.heap F' h' → (∀ a, GM c' a → GM c a) → P b → Q (.ret (.bool b)) { s with heap := h', toks := tk }) →
    wpAny (model c.prog c.w) A (execs l X.env) Q (fun _ _ => False) s

section
variable {c : Cx} {n : Nat} {sc : List (Str × NameKind)}

theorem ends_cons {a : Stmt} {r : List Stmt} {T : St → (Fl → St → Prop) → Prop} {U : St → (Bool → Prop) → Prop} (ha : SemS c n sc a T) (hr : Ends c n sc r U) :
    Ends c n sc (a :: r) (endT T U) := by
  intro A X F s st P Q rm ok g hnew ht hq
  unfold endT at ht
  refine wpAny_execs_cons (ha A X F s st _ _ rm ok g ht fun F1 h1 tk1 f fl st1 g1 L1 r1 p1 => ?_)
  cases fl with
  | next =>
    obtain rfl : f = .next := r1
    exact hr A X F1 _ st1 _ _ rm ok g1 hnew p1 fun c' F2 h2 tk2 b st2 g2 L2 gm p2 => hq c' F2 h2 tk2 b st2 g2 (L1.trans L2) gm p2
  | brk => exact p1.elim
  | cont => exact p1.elim
  | ret v =>
    cases v with
    | bool b =>
      obtain ⟨x, rfl, r⟩ : ∃ x, f = .ret x ∧ x = .bool b := r1
      subst r
      exact hq c F1 h1 tk1 b st1 g1 L1 (fun _ m => m) p1
    | _ => exact p1.elim
theorem ends_last {a : Stmt} {T : St → (Fl → St → Prop) → Prop} (ha : SemS c n sc a T) :
    Ends c n sc [a] (fun st P => T st fun fl st1 => match fl with | .ret (.bool b) => P b | _ => False) := by
  intro A X F s st P Q rm ok g hnew ht hq
  refine wpAny_execs_cons (ha A X F s st _ _ rm ok g ht fun F1 h1 tk1 f fl st1 g1 L1 r1 p1 => ?_)
  cases fl with
  | next => exact p1.elim
  | brk => exact p1.elim
  | cont => exact p1.elim
  | ret v =>
    cases v with
    | bool b =>
      obtain ⟨x, rfl, r⟩ : ∃ x, f = .ret x ∧ x = .bool b := r1
      subst r
      exact hq c F1 h1 tk1 b st1 g1 L1 (fun _ m => m) p1
    | _ => exact p1.elim

noncomputable def Cx.still (c : Cx) : Cx := { c with live := c.ad .feed }
theorem gm_still {a : Addr} (m : GM c.still a) : GM c a := by
  rcases m with ⟨hon, m | m | m | m | m | m⟩
  · exact gmi hon <| .inl m
  · exact gmi hon <| .inr (.inl m)
  · exact gmi hon <| .inr (.inr (.inl m))
  · exact gmi hon <| .inr (.inr (.inr (.inl m)))
  · exact gmi hon <| .inl m
  · exact gmi hon <| .inr (.inr (.inr (.inr (.inr m))))

/-- from here on the list of numbers is never written -/
theorem ends_still {l : List Stmt} (hon : On c.ad) (J : St → Prop) (h : ∀ c, ∃ U, Ends c n sc l U ∧ ∀ st, J st → U st (fun b => b = true)) :
    Ends c n sc l (fun st P => st.g.done = false ∧ J { st with g := { st.g with done := true } } ∧ P true) := by
  intro A X F s st P Q rm ok g hnew ht hq
  obtain ⟨hd, ht, hPt⟩ := ht
  have hl : c.live = c.ad .numbers := by
    rcases (g.g.real hon).live with ⟨_, e⟩ | ⟨e, _⟩
    · exact e
    · rw [hd] at e; cases e
  have L : Later F s.heap (fun a => F a ∨ a = c.ad .numbers) s.heap := ⟨fun _ f => .inl f, fun _ _ _ e => e⟩
  have hne : ∀ a, a = c.ad .numbers → ¬ GM c.still a := by
    intro a e m
    have := (g.g.real hon).apart
    simp only [List.nodup_cons, List.mem_cons, List.not_mem_nil, or_false, not_or, not_false_eq_true, List.nodup_nil, and_true] at this
    obtain ⟨⟨q1, q2, q3, q4, q5⟩, ⟨q6, q7, q8, q9⟩, ⟨q10, q11, q12⟩, ⟨q13, q14⟩, q15⟩ := this
    subst e
    rcases m with ⟨_, m | m | m | m | m | m⟩
    · exact q4 m.symm
    · exact q8 m.symm
    · exact q11 m.symm
    · exact q13 m.symm
    · exact q4 m.symm
    · exact q15 m
  have hthere : ∃ o, s.heap.get? (c.ad .numbers) = some o := by obtain ⟨_, ⟨n, e⟩, _⟩ := (g.g.real hon).numbers; exact ⟨_, e⟩
  have nF : ∀ b, b ≠ c.ad .numbers → (F b ∨ b = c.ad .numbers) → F b := fun b hb f => f.elim id fun e => absurd e hb
  have gmn : GM c (c.ad .numbers) := gmi hon <| .inr (.inr (.inr (.inr (.inl hl.symm))))
  have hg : GRep c.still (fun a => F a ∨ a = c.ad .numbers) s.heap { st.g with done := true } :=
    { nf := fun a f => f.elim (fun f m => g.g.nf a f (gm_still m)) (hne a), real := fun _ => {
      circ := by obtain ⟨dx, od, f1, f2, e1, e2, q⟩ := (g.g.real hon).circ; exact ⟨dx, od, .inl f1, .inl f2, e1, e2, q⟩
      bin := by obtain ⟨dx, od, f1, f2, e1, e2, q⟩ := (g.g.real hon).bin; exact ⟨dx, od, .inl f1, .inl f2, e1, e2, q⟩
      world := (g.g.real hon).world.imp id fun ⟨e, il, xs, fi, p, r, z, d⟩ => ⟨e, il, xs, .inl fi, p, r.later L, z, d⟩
      feed := by obtain ⟨ca, xs, t, fi, p, r, z, d⟩ := (g.g.real hon).feed; exact ⟨ca, xs, t, .inl fi, p, r.later L, z, d⟩
      kinds := by obtain ⟨xs, p, r, z⟩ := (g.g.real hon).kinds; exact ⟨xs, p, r.later L, z⟩
      parts := by obtain ⟨xs, p, r, z⟩ := (g.g.real hon).parts; exact ⟨xs, p, r.later L, z⟩
      known := by obtain ⟨xs, p, r, z⟩ := (g.g.real hon).known; exact ⟨xs, p, r.mono L.1, z⟩
      numbers := by obtain ⟨xs, p, r, z⟩ := (g.g.real hon).numbers; exact ⟨xs, p, r.later L, z⟩
      live := .inr ⟨rfl, .inr rfl, rfl⟩
      apart := (g.g.real hon).apart
      nsys := (g.g.real hon).nsys } }
  have ok' : ActOk c.still sc X := { ok with
    Lgm := fun m => ok.Lgm (gm_still m)
    cgm := fun x a l => ⟨fun m => (ok.cgm x a l).1 (gm_still m), (ok.cgm x a l).2⟩
    pin := fun p hp => ⟨(ok.pin p hp).1, fun m => (ok.pin p hp).2.1 (gm_still m), (ok.pin p hp).2.2⟩ }
  have hg' : Good c.still X (fun a => F a ∨ a = c.ad .numbers) s.heap { st with g := { st.g with done := true } } :=
    { stat := ⟨fun a o e => ⟨.inl (g.stat.K a o e).1, (g.stat.K a o e).2⟩, ⟨.inl g.stat.b.1, g.stat.b.2⟩, ⟨.inl g.stat.lim.1, g.stat.lim.2⟩, ⟨.inl g.stat.mg.1, g.stat.mg.2⟩⟩
      g := hg
      froz := fun a f => f.elim (g.froz a) fun e => e ▸ hthere
      fnew := fun a f => f.elim (g.fnew a) fun e => by
        subst e
        exact .inr (hnew _ gmn)
      kept := fun a o e m => by
        by_cases hm : GM c a
        · rw [hnew a hm] at e; cases e
        · exact g.kept a o e hm
      ns := g.ns
      LF := fun f => f.elim g.LF fun e => ok.Lgm (e ▸ gmn)
      cells := fun x a l => ⟨(g.cells x a l).1, fun f => f.elim (g.cells x a l).2 fun e => (ok.cgm x a l).1 (e ▸ gmn)⟩
      pins := fun p hp => ⟨(g.pins p hp).1, fun f => f.elim (g.pins p hp).2 fun e => (ok.pin p hp).2.1 (e ▸ gmn)⟩
      loc := fun x v e => by obtain ⟨u, S, r⟩ := g.loc x v e; exact ⟨u, S, r.later L⟩
      own := by
        show OwnOk _ _ _ _ st.own
        have q := g.own
        cases ho : st.own with
        | none => trivial
        | lst x a l wr =>
          rw [ho] at q
          obtain ⟨xs, S, nf, ng, nL, nc, p, r, z, pn, w⟩ := q
          exact ⟨xs, S, fun f => f.elim nf fun e => ng (e ▸ gmn), fun m => ng (gm_still m), nL, nc, p, r.later L, z, pn, fun e => let ⟨w1, w2, w3⟩ := w e; ⟨w1, fun m => w2 (gm_still m), w3⟩⟩
        | dct x a ks =>
          rw [ho] at q
          obtain ⟨S, nf, nL, nc, p, w⟩ := q
          exact ⟨S, fun f => f.elim nf fun e => w.2.1 (e ▸ gmn), nL, nc, p, w.1, fun m => w.2.1 (gm_still m), w.2.2⟩
      noloc := g.noloc }
  obtain ⟨U, hU, hJ⟩ := h c.still
  exact hU A X _ s _ _ Q rm ok' hg' (fun a m => hnew a (gm_still m)) (hJ _ ht) fun c' F' h' tk b st' g' L' gm p => hq c' F' h' tk b st' g' (L.trans L') (fun a m => gm_still (gm a m)) (by rw [p]; exact hPt)
end

theorem run_fn {prog : Program} {w : World} {A : Around} {s : Shared} {K : Frag} {f : Addr} {name qual : Str} {params : Arguments} {body : List Stmt} {scope : Scope} {dV kV doc pm cdv ct oc : Value} {an od : Option Addr} {osl : Array (Option Value)}
    {xs : List Value} {binds : List (Str × Value)} {R : Result → Shared → Prop}
    (ho : K.lookup f = some ⟨oc, od, .func (fnOf name qual params body scope dV kV doc pm an cdv ct), osl⟩) (hcd : codeIn K cdv qual = true)
    (hbind : bindArgs (fnOf name qual params body scope dV kV doc pm an cdv ct) ⟨xs, []⟩ = pure binds)
    (hkind : ∀ x ∈ binds, scope.names.lookup x.1 = some .local)
    (hco : scope.isCoroutine = false) (hgen : scope.isGenerator = false) (hk : scope.kind = .function)
    (X : K.In s.heap) (lim : ∀ h' : Heap, (∀ b o, s.heap.get? b = some o → h'.get? b = some o) → h'.NoLimit) (hroom : A.depth < 900)
    (h : ∀ (env : Env) (h' : Heap) (tk : Nat), env.scope = scope → s.heap.objs.size ≤ env.locals → Fr s.heap env.locals h' (bindL (fun y => scope.names.lookup y) binds fun _ => none) →
      wpAny (model prog w) (A.deeper env) (execs body env) (fun fl s' => R (.ok (.ret (match fl with | .ret v => v | _ => .none))) s') (fun _ _ => False) { s with heap := h', toks := tk }) :
    codeAny (model prog w) A (.call (.ref f) ⟨xs, []⟩) R s := by
  have hroom' : A.depth < recursionLimit := by show A.depth < 1000; lia
  refine codeAny_call_function hroom' (X f _ ho) rfl hco hgen rfl (codeRec_of X hcd) ?_
  rw [hbind]
  refine wpAny_pure (wpAny_newFunctionEnv_cells hk (fun x hx => .inl (hkind x hx)) fun env he s' x => ?_)
  have hL : env.locals = s.heap.objs.size := by rw [he]; rfl
  have hsc : env.scope = scope := by rw [he]; rfl
  obtain ⟨h', tk', rfl, hkeep⟩ := x.done
  have hko : env.kindOf = fun y => scope.names.lookup y := by funext y; show env.scope.names.lookup y = _; rw [hsc]
  have F : Fr s.heap env.locals h' (bindL (fun y => scope.names.lookup y) binds fun _ => none) := ⟨by rw [← hko]; exact x.toInCall.ns, hkeep, by rw [hL]; exact Nat.le_refl _⟩
  refine ⟨lim _ hkeep, codeAny_func ?_⟩
  exact wpAny_mono (h env h' tk' hsc (by rw [hL]; exact Nat.le_refl _) F) (fun _ _ q => q) (fun _ _ q => q.elim)

noncomputable def es3 (h1 h2 h3 : Int) (t1 t2 t3 : Nat) (k p d : Value) : List DictEntry := [⟨h1, .str (Str.ofString "kinds") t1, k⟩, ⟨h2, .str (Str.ofString "parts_now") t2, p⟩, ⟨h3, .str (Str.ofString "known") t3, d⟩]
theorem look3 {h1 h2 h3 : Int} {t1 t2 t3 : Nat} {k p d : Value} (n : Nat) (y : Str) : lookIn y (dictOf (es3 h1 h2 h3 t1 t2 t3 k p d) n) = some (if y = Str.ofString "kinds" then some k else if y = Str.ofString "parts_now" then some p else if y = Str.ofString "known" then some d else none) := by
  rw [lookIn_dict]
  unfold getL es3
  have hs : ∀ (x : Str) (t : Nat) , (Value.str x t).isStr y = decide (y = x) := fun x t => by
    show (x == y) = decide (y = x)
    rw [Bool.eq_iff_iff, beq_iff_eq, decide_eq_true_eq]; exact eq_comm
  simp only [List.find?_cons, List.find?_nil, hs]
  by_cases a1 : y = Str.ofString "kinds"
  · rw [decide_eq_true a1, if_pos a1]
  · rw [decide_eq_false a1, if_neg a1]
    by_cases a2 : y = Str.ofString "parts_now"
    · rw [decide_eq_true a2, if_pos a2]
    · rw [decide_eq_false a2, if_neg a2]
      by_cases a3 : y = Str.ofString "known"
      · rw [decide_eq_true a3, if_pos a3]
      · rw [decide_eq_false a3, if_neg a3]; rfl

abbrev mtDict : Obj := { cls := .type "dict", data := .dict #[] }
abbrev lstObj (xs : List Value) : Obj := { cls := .type "list", data := .seq xs.toArray }
abbrev tupObj (xs : List Value) : Obj := { cls := .type "tuple", data := .seq xs.toArray }

theorem set_news {prog : Program} {w : World} {A : Around} {s : Shared} {h₀ : Heap} {L x dx C : Addr} {m : Str → Option Value} {pre post : List (Addr × Obj)} {es : List DictEntry} {n : Nat} {name : Str} {v : Value} {Q : Unit → Shared → Prop}
    (X : (hd.heap_39 w.params).In s.heap) (F : Fr h₀ L s.heap m) (N : News h₀ L s.heap (pre ++ (dx, dictOf es n) :: post)) (hx : s.heap.get? x = some (instObj C dx))
    (hs : findIn (hd.heap_39 w.params) (.ref C) "__setattr__" = some (some (.builtin "object.__setattr__"))) (hp : plainOver (hd.heap_39 w.params) C = true) (ht : takerIn (hd.heap_39 w.params) C name = some none) (hh : (clsIn (hd.heap_39 w.params) C).any (·.hasDict) = true)
    (hl : (lookIn name (dictOf es n)).isSome = true) (h1 : ∀ p ∈ pre, p.1 ≠ dx) (h2 : ∀ p ∈ post, p.1 ≠ dx) (hz : (putL name (PyData.keyHash w.params name) (.str name (s.toks + 1)) v es).length ≤ 1000)
    (h : ∀ h' tk key, key = s.toks + 1 → Fr h₀ L h' m → News h₀ L h' (pre ++ (dx, dictOf (putL name (PyData.keyHash w.params name) (.str name key) v es) (putN name es n)) :: post) → Q () { s with heap := h', toks := tk }) :
    wpAny (model prog w) A (setAttr (.ref x) name v) Q (fun _ _ => False) s := by
  have hdx := (N (dx, dictOf es n) (by simp)).1
  have I : InstAt s.heap x (instObj C dx) C (some (dictOf es n)) := ⟨hx, rfl, rfl, hdx⟩
  refine set_plain X I hs ?_
  exact osa_dict (s := { s with toks := s.toks + 1 }) F N X I rfl hp ht hh hl h1 h2 (putName_dict ..) rfl hz fun h' F' N' => h h' _ _ rfl F' N'

theorem all3 {p : Addr → Prop} {a b c : Addr} (h1 : p a) (h2 : p b) (h3 : p c) : ∀ x ∈ [a, b, c], p x := by
  intro x hx
  simp only [List.mem_cons, List.not_mem_nil, or_false] at hx
  rcases hx with rfl | rfl | rfl <;> assumption
theorem all4 {p : Addr → Prop} {a b c d : Addr} (h1 : p a) (h2 : p b) (h3 : p c) (h4 : p d) : ∀ x ∈ [a, b, c, d], p x := by
  intro x hx
  simp only [List.mem_cons, List.not_mem_nil, or_false] at hx
  rcases hx with rfl | rfl | rfl | rfl <;> assumption
theorem all7 {p : Addr → Prop} {a b c d e f g : Addr} (h1 : p a) (h2 : p b) (h3 : p c) (h4 : p d) (h5 : p e) (h6 : p f) (h7 : p g) : ∀ x ∈ [a, b, c, d, e, f, g], p x := by
  intro x hx
  simp only [List.mem_cons, List.not_mem_nil, or_false] at hx
  rcases hx with rfl | rfl | rfl | rfl | rfl | rfl | rfl <;> assumption
theorem circ_new {prog : Program} {w : World} {A : Around} {s : Shared} {Q : Value → Shared → Prop} (X : (hd.heap_39 w.params).In s.heap)
    (lim : ∀ h' : Heap, (∀ b o, s.heap.get? b = some o → h'.get? b = some o) → h'.NoLimit) (hroom : A.depth < 890)
    (k : ∀ (h' : Heap) (tk : Nat) (x dx kl pl dl t1 t2 : Addr) (od : Obj) (u1 u2 : Nat), (∀ b o, s.heap.get? b = some o → h'.get? b = some o) →
      (∀ a ∈ [x, dx, kl, pl, dl, t1, t2], s.heap.get? a = none) → [kl, pl, dl].Nodup → (∀ a ∈ [x, dx, t1, t2], ∀ b ∈ [kl, pl, dl], a ≠ b) → s.heap.objs.size ≤ dl →
      h'.get? x = some (instObj 245 dx) → h'.get? dx = some od → (∀ y, lookIn y od = some (if y = Str.ofString "kinds" then some (.ref kl) else if y = Str.ofString "parts_now" then some (.ref pl) else if y = Str.ofString "known" then some (.ref dl) else none)) →
      h'.get? kl = some (lstObj [.str (Str.ofString "") u1, .str (Str.ofString "true") u2]) → h'.get? pl = some (lstObj [.ref t1, .ref t2]) → h'.get? t1 = some (tupObj []) → h'.get? t2 = some (tupObj []) → h'.get? dl = some mtDict →
      Q (.ref x) { s with heap := h', toks := tk }) :
    wpAny (model prog w) A (call (.ref 245) []) Q (fun _ _ => False) s := by
  obtain ⟨hh, g, dr, t, os⟩ := s
  refine wpAny_call (make_core (makes_of X (by kernel_rfl)) (looks_findIn X (name := "__init__") (r := some (.ref 151)) (by kernel_rfl)) (fun self => bind_fn X self (by kernel_rfl)) (.inl rfl) ?_)
  have up : ∀ b o, hh.get? b = some o → ((hh.push emptyDict).push (instObj 245 hh.objs.size)).get? b = some o := fun b o e => Heap.get?_push_of_some _ (Heap.get?_push_of_some _ e)
  have hx : ((hh.push emptyDict).push (instObj 245 hh.objs.size)).get? (hh.objs.size + 1) = some (instObj 245 hh.objs.size) := by heap_get
  have hdx : ((hh.push emptyDict).push (instObj 245 hh.objs.size)).get? hh.objs.size = some emptyDict := by heap_get
  have hsz2 : ((hh.push emptyDict).push (instObj 245 hh.objs.size)).objs.size = hh.objs.size + 2 := by rw [Heap.size_push, Heap.size_push]
  generalize ((hh.push emptyDict).push (instObj 245 hh.objs.size)) = h2 at up hx hdx hsz2 ⊢
  refine' run_fn (K := hd.heap_39 w.params) (binds := [(Str.ofString "self", .ref (hh.objs.size + 1))]) ?ho ?hcd ?hbind ?hkind ?hco ?hgen ?hk ?hX ?hlim ?hdep ?hrun
  case ho => (show (hd.heap_39 _).lookup _ = _; with_unfolding_all rfl)
  case hcd => kernel_rfl
  case hbind => rfl
  case hkind => (intro x hx; rw [List.mem_singleton.mp hx]; rfl)
  case hco => rfl
  case hgen => rfl
  case hk => rfl
  case hX => exact X.keeps up
  case hlim => exact fun h' kk => lim h' fun b o e => kk b o (up b o e)
  case hdep =>
    have hw : (Code.builtin "type.__call__" { pos := [Value.ref 245] }).weight ≤ 5 := by decide
    simp only [Around.under]
    lia
  case hrun =>
    intro env h3 tk hsc hL F
    have hL' : hh.objs.size + 2 ≤ env.locals := by rw [← hsz2]; exact hL
    have F0 : Fr hh env.locals h3 (bindL (fun y => List.lookup y [(Str.ofString "self", NameKind.local)]) [(Str.ofString "self", Value.ref (hh.objs.size + 1))] fun _ => none) := ⟨F.ns, fun b o e => F.keep b o (up b o e), Nat.le_trans (Nat.le_add_right _ 2) hL'⟩
    have hko : env.kindOf (Str.ofString "self") = some .local := by show env.scope.names.lookup _ = _; rw [hsc]; rfl
    have hkf : env.scope.kind = .function := by rw [hsc]
    generalize hm : (bindL (fun y => List.lookup y [(Str.ofString "self", NameKind.local)]) [(Str.ofString "self", Value.ref (hh.objs.size + 1))] fun _ => none) = m at F0
    have hself : m (Str.ofString "self") = some (.ref (hh.objs.size + 1)) := by rw [← hm]; rfl
    have X3 : (hd.heap_39 w.params).In h3 := X.keeps fun b o e => F.keep b o (up b o e)
    have N0 : News hh env.locals h3 [(hh.objs.size + 1, instObj 245 hh.objs.size), (hh.objs.size, dictOf [] 0)] := by
      intro p hp
      simp only [List.mem_cons, List.not_mem_nil, or_false] at hp
      rcases hp with rfl | rfl
      · exact ⟨F.keep _ _ hx, Nat.ne_of_lt (Nat.lt_of_lt_of_le (Nat.lt_succ_self _) hL'), ge_none (Nat.le_succ _)⟩
      · exact ⟨F.keep _ _ hdx, Nat.ne_of_lt (Nat.lt_of_lt_of_le (Nat.lt_add_of_pos_right (by decide)) hL'), none_at_size _⟩
    have ne1 : hh.objs.size + 1 ≠ hh.objs.size := Nat.succ_ne_self _
    clear F hdx hx hL
    -- self.kinds
    refine wpAny_execs_cons (plainObj_wpAny_Assign_Attribute (List_ ?_) (by rfl))
    show wpAny _ _ (spliced (backTo _ ((false, _) :: (false, _) :: []))) _ _ _
    refine spliced_back (Constant_str (spliced_back (Constant_str (spliced_nil ?_))))
    dsimp only
    refine newList_N F0 N0 (fun h4 F4 N4 => ?_) (by show 2 ≤ 16777216; lia)
    obtain ⟨kl, hkl⟩ : ∃ kl, kl = h3.objs.size := ⟨_, rfl⟩
    rw [← hkl] at N4
    rw [← hkl]
    refine wpAny_Name (wpAny_loadName_local hkf hko F4.ns hself ?_) (by decide)
    have D0 : ∀ p ∈ [(hh.objs.size + 1, instObj 245 hh.objs.size)], p.1 ≠ hh.objs.size := by
      intro p hp; rw [List.mem_singleton.mp hp]; exact ne1
    have grow : ∀ {hA : Heap} {mA : List (Addr × Obj)} {o : Obj} {aN : Addr}, aN = hA.objs.size → News hh env.locals hA (mA ++ (hh.objs.size, o) :: []) → (∀ p ∈ mA, p.1 ≠ hh.objs.size) → ∀ (ob : Obj), ∀ p ∈ ((aN, ob) :: mA), p.1 ≠ hh.objs.size := by
      intro hA mA o aN e N D ob p hp
      rcases List.mem_cons.mp hp with rfl | hp
      · rw [e]; exact (N.apart (hh.objs.size, o) (List.mem_append.mpr (.inr (.head _)))).symm
      · exact D p hp
    have D1 := grow (mA := [(hh.objs.size + 1, instObj 245 hh.objs.size)]) hkl N0 D0 (lstObj [Value.str (Str.ofString "") tk, Value.str (Str.ofString "true") (tk + 1)])
    refine set_news (s := { heap := h4, gens := g, drawn := dr, toks := tk + 1 + 1, os := os }) (pre := [(kl, _), (hh.objs.size + 1, _)]) (post := []) (X.keeps F4.keep) F4 N4 (N4 (hh.objs.size + 1, instObj 245 hh.objs.size) (.tail _ (.head _))).1 (by kernel_rfl) (by kernel_rfl) (by kernel_rfl) (by kernel_rfl) rfl D1 (by simp) (by show 1 ≤ 1000; lia) fun h5 tk5 key5 _ F5 N5 => ?_
    -- self.parts_now
    refine wpAny_execs_cons (plainObj_wpAny_Assign_Attribute (List_ ?_) (by rfl))
    show wpAny _ _ (spliced (backTo _ ((false, _) :: (false, _) :: []))) _ _ _
    refine spliced_back (Tuple_ ?_)
    show wpAny _ _ (spliced []) _ _ _
    refine spliced_nil ?_
    refine newTuple_N F5 N5 (fun h6 F6 N6 => ?_) (by show 0 ≤ 16777216; lia)
    obtain ⟨t1, ht1⟩ : ∃ a, a = h5.objs.size := ⟨_, rfl⟩
    rw [← ht1] at N6
    rw [← ht1]
    have D2 := grow (mA := [(kl, _), (hh.objs.size + 1, instObj 245 hh.objs.size)]) ht1 N5 D1 (tupObj [])
    refine spliced_back (Tuple_ ?_)
    show wpAny _ _ (spliced []) _ _ _
    refine spliced_nil ?_
    refine newTuple_N F6 N6 (fun h7 F7 N7 => ?_) (by show 0 ≤ 16777216; lia)
    obtain ⟨t2, ht2⟩ : ∃ a, a = h6.objs.size := ⟨_, rfl⟩
    rw [← ht2] at N7
    rw [← ht2]
    have D3 := grow (mA := [(t1, _), (kl, _), (hh.objs.size + 1, instObj 245 hh.objs.size)]) ht2 N6 D2 (tupObj [])
    refine spliced_nil ?_
    refine newList_N F7 N7 (fun h8 F8 N8 => ?_) (by show 2 ≤ 16777216; lia)
    obtain ⟨pl, hpl⟩ : ∃ a, a = h7.objs.size := ⟨_, rfl⟩
    rw [← hpl] at N8
    rw [← hpl]
    have D4 := grow (mA := [(t2, _), (t1, _), (kl, _), (hh.objs.size + 1, instObj 245 hh.objs.size)]) hpl N7 D3 (lstObj [.ref t1, .ref t2])
    refine wpAny_Name (wpAny_loadName_local hkf hko F8.ns hself ?_) (by decide)
    refine set_news (s := { heap := h8, gens := g, drawn := dr, toks := tk5, os := os }) (pre := [(pl, _), (t2, _), (t1, _), (kl, _), (hh.objs.size + 1, _)]) (post := []) (X.keeps F8.keep) F8 N8 (N8 (hh.objs.size + 1, instObj 245 hh.objs.size) (.tail _ (.tail _ (.tail _ (.tail _ (.head _)))))).1 (by kernel_rfl) (by kernel_rfl) (by kernel_rfl) (by kernel_rfl) rfl D4 (by simp) (by show 2 ≤ 1000; lia) fun h9 tk9 key9 _ F9 N9 => ?_
    -- self.known
    refine wpAny_execs_cons (plainObj_wpAny_Assign_Attribute (wpAny_Dict_empty ?_) (by rfl))
    have F10 := F9.push mtDict
    have N10 := N9.push F9 mtDict
    obtain ⟨dl, hdl⟩ : ∃ a, a = h9.objs.size := ⟨_, rfl⟩
    obtain ⟨h10, hh10⟩ : ∃ h10, h10 = h9.push mtDict := ⟨_, rfl⟩
    change wpAny _ _ _ _ _ { heap := h9.push mtDict, gens := g, drawn := dr, toks := tk9, os := os }
    rw [← hdl, ← hh10] at N10
    rw [← hh10] at F10
    rw [← hdl, ← hh10]
    have D5 := grow (mA := [(pl, _), (t2, _), (t1, _), (kl, _), (hh.objs.size + 1, instObj 245 hh.objs.size)]) hdl N9 D4 mtDict
    refine wpAny_Name (wpAny_loadName_local hkf hko F10.ns hself ?_) (by decide)
    refine set_news (s := { heap := h10, gens := g, drawn := dr, toks := tk9, os := os }) (pre := [(dl, _), (pl, _), (t2, _), (t1, _), (kl, _), (hh.objs.size + 1, _)]) (post := []) (X.keeps F10.keep) F10 N10 (N10 (hh.objs.size + 1, instObj 245 hh.objs.size) (.tail _ (.tail _ (.tail _ (.tail _ (.tail _ (.head _))))))).1 (by kernel_rfl) (by kernel_rfl) (by kernel_rfl) (by kernel_rfl) rfl D5 (by simp) (by show 3 ≤ 1000; lia) fun h11 tk11 key11 _ F11 N11 => ?_
    refine wpAny_execs_nil ?_
    refine ⟨rfl, ?_⟩
    have n1 : pl ≠ kl := by rw [hpl]; exact (N7.apart (kl, _) (.tail _ (.tail _ (.head _)))).symm
    have n2 : dl ≠ kl := by rw [hdl]; exact (N9.apart (kl, _) (.tail _ (.tail _ (.tail _ (.head _))))).symm
    have n3 : dl ≠ pl := by rw [hdl]; exact (N9.apart (pl, _) (.head _)).symm
    have hes : putL (Str.ofString "known") (PyData.keyHash w.params (Str.ofString "known")) (.str (Str.ofString "known") key11) (.ref dl) (putL (Str.ofString "parts_now") (PyData.keyHash w.params (Str.ofString "parts_now")) (.str (Str.ofString "parts_now") key9) (.ref pl)
        (putL (Str.ofString "kinds") (PyData.keyHash w.params (Str.ofString "kinds")) (.str (Str.ofString "kinds") key5) (.ref kl) [])) = es3 (PyData.keyHash w.params (Str.ofString "kinds")) (PyData.keyHash w.params (Str.ofString "parts_now")) (PyData.keyHash w.params (Str.ofString "known")) key5 key9 key11 (.ref kl) (.ref pl) (.ref dl) := by rfl
    rw [hes] at N11
    have q0 := N11 _ (.head _)
    have q1 := N11 _ (.tail _ (.head _))
    have q2 := N11 _ (.tail _ (.tail _ (.head _)))
    have q3 := N11 _ (.tail _ (.tail _ (.tail _ (.head _))))
    have q4 := N11 _ (.tail _ (.tail _ (.tail _ (.tail _ (.head _)))))
    have q5 := N11 _ (.tail _ (.tail _ (.tail _ (.tail _ (.tail _ (.head _))))))
    have q6 := N11 _ (.tail _ (.tail _ (.tail _ (.tail _ (.tail _ (.tail _ (.head _)))))))
    refine k h11 tk11 (hh.objs.size + 1) hh.objs.size kl pl dl t1 t2 _ tk (tk + 1) F11.keep ?_ ?_ ?_ ?_ q5.1 q6.1 (look3 _) q4.1 q1.1 q3.1 q2.1 q0.1
    · exact all7 q5.2.2 q6.2.2 q4.2.2 q1.2.2 q0.2.2 q3.2.2 q2.2.2
    · simp only [List.nodup_cons, List.mem_cons, List.not_mem_nil, or_false, not_or, not_false_eq_true, List.nodup_nil, and_true]
      exact ⟨⟨n1.symm, n2.symm⟩, n3.symm⟩
    · exact all4 (all3 (by rw [hkl]; exact N0.apart _ (.head _)) (by rw [hpl]; exact N7.apart _ (.tail _ (.tail _ (.tail _ (.head _))))) (by rw [hdl]; exact N9.apart _ (.tail _ (.tail _ (.tail _ (.tail _ (.head _))))))) (all3 (by rw [hkl]; exact N0.apart _ (.tail _ (.head _))) (by rw [hpl]; exact N7.apart _ (.tail _ (.tail _ (.tail _ (.tail _ (.head _)))))) (by rw [hdl]; exact N9.apart _ (.tail _ (.tail _ (.tail _ (.tail _ (.tail _ (.head _)))))))) (all3 (by rw [ht1]; exact (N5.apart _ (.head _)).symm) (by rw [hpl]; exact N7.apart _ (.tail _ (.head _))) (by rw [hdl]; exact N9.apart _ (.tail _ (.tail _ (.head _))))) (all3 (by rw [ht2]; exact (N6.apart _ (.tail _ (.head _))).symm) (by rw [hpl]; exact N7.apart _ (.head _)) (by rw [hdl]; exact N9.apart _ (.tail _ (.head _))))
    · obtain ⟨o9, _, _, e9, _⟩ := F9.ns
      rw [hdl]
      exact Nat.le_of_lt (Nat.lt_of_le_of_lt F9.above (Heap.lt_size e9))

theorem look1 {h1 : Int} {t1 : Nat} {k : Value} (n : Nat) (y : Str) : lookIn y (dictOf [⟨h1, .str (Str.ofString "circuit") t1, k⟩] n) = some (if y = Str.ofString "circuit" then some k else none) := by
  rw [lookIn_dict]
  unfold getL
  have hs : ∀ (x : Str) (t : Nat) , (Value.str x t).isStr y = decide (y = x) := fun x t => by
    show (x == y) = decide (y = x)
    rw [Bool.eq_iff_iff, beq_iff_eq, decide_eq_true_eq]; exact eq_comm
  simp only [List.find?_cons, List.find?_nil, hs]
  by_cases a1 : y = Str.ofString "circuit"
  · rw [decide_eq_true a1, if_pos a1]
  · rw [decide_eq_false a1, if_neg a1]; rfl
theorem bin_new {prog : Program} {w : World} {A : Around} {s : Shared} {Q : Value → Shared → Prop} {cv : Value} (X : (hd.heap_39 w.params).In s.heap)
    (lim : ∀ h' : Heap, (∀ b o, s.heap.get? b = some o → h'.get? b = some o) → h'.NoLimit) (hroom : A.depth < 890)
    (k : ∀ (h' : Heap) (tk : Nat) (x dx : Addr) (od : Obj), (∀ b o, s.heap.get? b = some o → h'.get? b = some o) → s.heap.get? x = none → s.heap.get? dx = none →
      h'.get? x = some (instObj 133 dx) → h'.get? dx = some od → (∀ y, lookIn y od = some (if y = Str.ofString "circuit" then some cv else none)) →
      Q (.ref x) { s with heap := h', toks := tk }) :
    wpAny (model prog w) A (call (.ref 133) [cv]) Q (fun _ _ => False) s := by
  obtain ⟨hh, g, dr, t, os⟩ := s
  refine wpAny_call (make_core (makes_of X (by kernel_rfl)) (looks_findIn X (name := "__init__") (r := some (.ref 49)) (by kernel_rfl)) (fun self => bind_fn X self (by kernel_rfl)) (.inl rfl) ?_)
  have up : ∀ b o, hh.get? b = some o → ((hh.push emptyDict).push (instObj 133 hh.objs.size)).get? b = some o := fun b o e => Heap.get?_push_of_some _ (Heap.get?_push_of_some _ e)
  have hx : ((hh.push emptyDict).push (instObj 133 hh.objs.size)).get? (hh.objs.size + 1) = some (instObj 133 hh.objs.size) := by heap_get
  have hdx : ((hh.push emptyDict).push (instObj 133 hh.objs.size)).get? hh.objs.size = some emptyDict := by heap_get
  have hsz2 : ((hh.push emptyDict).push (instObj 133 hh.objs.size)).objs.size = hh.objs.size + 2 := by rw [Heap.size_push, Heap.size_push]
  generalize ((hh.push emptyDict).push (instObj 133 hh.objs.size)) = h2 at up hx hdx hsz2 ⊢
  refine' run_fn (K := hd.heap_39 w.params) (binds := [(Str.ofString "self", .ref (hh.objs.size + 1)), (Str.ofString "circuit", cv)]) ?ho ?hcd ?hbind ?hkind ?hco ?hgen ?hk ?hX ?hlim ?hdep ?hrun
  case ho => (show (hd.heap_39 _).lookup _ = _; with_unfolding_all rfl)
  case hcd => kernel_rfl
  case hbind => rfl
  case hkind =>
    intro x hx
    simp only [List.mem_cons, List.not_mem_nil, or_false] at hx
    rcases hx with rfl | rfl <;> rfl
  case hco => rfl
  case hgen => rfl
  case hk => rfl
  case hX => exact X.keeps up
  case hlim => exact fun h' kk => lim h' fun b o e => kk b o (up b o e)
  case hdep =>
    have hw : (Code.builtin "type.__call__" { pos := [Value.ref 133, cv] }).weight ≤ 5 := by show 1 ≤ 5; lia
    simp only [Around.under]
    lia
  case hrun =>
    intro env h3 tk hsc hL F
    have hL' : hh.objs.size + 2 ≤ env.locals := by rw [← hsz2]; exact hL
    have F0 : Fr hh env.locals h3 (bindL (fun y => List.lookup y [(Str.ofString "self", NameKind.local), (Str.ofString "circuit", NameKind.local)]) [(Str.ofString "self", Value.ref (hh.objs.size + 1)), (Str.ofString "circuit", cv)] fun _ => none) := ⟨F.ns, fun b o e => F.keep b o (up b o e), Nat.le_trans (Nat.le_add_right _ 2) hL'⟩
    have hko : env.kindOf (Str.ofString "self") = some .local := by show env.scope.names.lookup _ = _; rw [hsc]; rfl
    have hko2 : env.kindOf (Str.ofString "circuit") = some .local := by show env.scope.names.lookup _ = _; rw [hsc]; rfl
    have hkf : env.scope.kind = .function := by rw [hsc]
    generalize hm : (bindL (fun y => List.lookup y [(Str.ofString "self", NameKind.local), (Str.ofString "circuit", NameKind.local)]) [(Str.ofString "self", Value.ref (hh.objs.size + 1)), (Str.ofString "circuit", cv)] fun _ => none) = m at F0
    have hself : m (Str.ofString "self") = some (.ref (hh.objs.size + 1)) := by rw [← hm]; rfl
    have hcirc : m (Str.ofString "circuit") = some cv := by rw [← hm]; rfl
    have X3 : (hd.heap_39 w.params).In h3 := X.keeps fun b o e => F.keep b o (up b o e)
    have N0 : News hh env.locals h3 [(hh.objs.size + 1, instObj 133 hh.objs.size), (hh.objs.size, dictOf [] 0)] := by
      intro p hp
      simp only [List.mem_cons, List.not_mem_nil, or_false] at hp
      rcases hp with rfl | rfl
      · exact ⟨F.keep _ _ hx, Nat.ne_of_lt (Nat.lt_of_lt_of_le (Nat.lt_succ_self _) hL'), ge_none (Nat.le_succ _)⟩
      · exact ⟨F.keep _ _ hdx, Nat.ne_of_lt (Nat.lt_of_lt_of_le (Nat.lt_add_of_pos_right (by decide)) hL'), none_at_size _⟩
    have ne1 : hh.objs.size + 1 ≠ hh.objs.size := Nat.succ_ne_self _
    have D0 : ∀ p ∈ [(hh.objs.size + 1, instObj 133 hh.objs.size)], p.1 ≠ hh.objs.size := by
      intro p hp; rw [List.mem_singleton.mp hp]; exact ne1
    clear F hdx hx hL
    refine wpAny_execs_cons (plainObj_wpAny_Assign_Attribute (wpAny_Name (wpAny_loadName_local hkf hko2 F0.ns hcirc ?_) (by decide)) (by rfl))
    refine wpAny_Name (wpAny_loadName_local hkf hko F0.ns hself ?_) (by decide)
    refine set_news (s := { heap := h3, gens := g, drawn := dr, toks := tk, os := os }) (pre := [(hh.objs.size + 1, _)]) (post := []) X3 F0 N0 (N0 (hh.objs.size + 1, instObj 133 hh.objs.size) (.head _)).1 (by kernel_rfl) (by kernel_rfl) (by kernel_rfl) (by kernel_rfl) rfl D0 (by simp) (by show 1 ≤ 1000; lia) fun h5 tk5 key5 _ F5 N5 => ?_
    refine wpAny_execs_nil ?_
    refine ⟨rfl, ?_⟩
    have hes : putL (Str.ofString "circuit") (PyData.keyHash w.params (Str.ofString "circuit")) (.str (Str.ofString "circuit") key5) cv [] = [⟨PyData.keyHash w.params (Str.ofString "circuit"), .str (Str.ofString "circuit") key5, cv⟩] := by rfl
    rw [hes] at N5
    have q0 := N5 _ (.head _)
    have q1 := N5 _ (.tail _ (.head _))
    exact k h5 tk5 (hh.objs.size + 1) hh.objs.size _ F5.keep q0.2.2 q1.2.2 q0.1 q1.1 (look1 _)

section
variable {c : Cx} {n : Nat} {sc : List (Str × NameKind)} {X : Act} {F : Addr → Prop} {h h' : Heap} {st : St}

theorem off_g (off : ¬ On c.ad) {g : G} : GRep c F h g := ⟨fun hon => absurd hon off, fun a f m => off m.1⟩
noncomputable def bare (st : St) : St := { loc := fun _ => none, own := .none, g := st.g }
theorem Good.bare (R : Good c X F h st) : Good c X F h (bare st) :=
  { R with
    loc := fun x v e => by cases e
    own := trivial
    noloc := fun x e => by cases e }
theorem Good.only (R : Good c X F h st) (x : Str) : Good c X F h { loc := fun y => if y = x then st.loc y else none, own := .none, g := st.g } :=
  { R with
    loc := fun y v e => by
      by_cases hy : y = x
      · exact R.loc y v (by simpa [hy] using e)
      · simp [hy] at e
    own := trivial
    noloc := fun x e => by cases e }
theorem Good.sameBut (off : ¬ On c.ad) (R : Good c X F h st) (hown : st.own = .none) {z : Addr} (hs : Heap.SameBut z h h') (zF : ¬ F z) (z0 : X.h₀.get? z = none) (zL : z ≠ X.env.locals) (zC : ∀ x a, X.env.cells.lookup x = some a → a ≠ z) (zP : ∀ p ∈ X.pins, p.1 ≠ z) :
    Good c X F h' st ∧ Later F h F h' := by
  have L : Later F h F h' := ⟨fun _ f => f, fun a o f e => (hs.2 a fun q => zF (q ▸ f)).trans e⟩
  refine ⟨?_, L⟩
  exact {
    stat := R.stat.later L
    g := off_g off
    froz := fun a f => by obtain ⟨o, e⟩ := R.froz a f; exact ⟨o, L.2 a o f e⟩
    fnew := R.fnew
    kept := fun a o e m => (hs.2 a fun q => by rw [q, z0] at e; cases e).trans (R.kept a o e m)
    ns := by obtain ⟨m, hm⟩ := R.ns; exact ⟨m, hm.sameBut hs zL.symm⟩
    LF := R.LF
    cells := fun y a l => by obtain ⟨⟨w, o, e, d⟩, nf⟩ := R.cells y a l; exact ⟨⟨w, o, (hs.2 a (zC y a l)).trans e, d⟩, nf⟩
    pins := fun p hp => ⟨(hs.2 _ (zP p hp)).trans (R.pins p hp).1, (R.pins p hp).2⟩
    loc := fun y w e => by
      obtain ⟨q, S, r⟩ := R.loc y w e
      exact ⟨q, S.at (fun o e => (hs.2 _ zL.symm).trans e) (fun x a l o e => (hs.2 a (zC x a l)).trans e), r.later L⟩
    own := by rw [hown]; trivial
    noloc := R.noloc }
theorem Good.add (off : ¬ On c.ad) (R : Good c X F h st) (hown : st.own = .none) {a : Addr} {o : Obj} (ho : h.get? a = some o) (a0 : X.h₀.get? a = none) (aL : a ≠ X.env.locals) (aC : ∀ x b, X.env.cells.lookup x = some b → b ≠ a) (aP : ∀ p ∈ X.pins, p.1 ≠ a) :
    Good c X (fun b => F b ∨ b = a) h st ∧ Later F h (fun b => F b ∨ b = a) h := by
  have L : Later F h (fun b => F b ∨ b = a) h := ⟨fun _ f => .inl f, fun _ _ _ e => e⟩
  refine ⟨?_, L⟩
  exact {
    stat := R.stat.later L
    g := off_g off
    froz := fun b f => f.elim (R.froz b) fun e => ⟨o, e ▸ ho⟩
    fnew := fun b f => f.elim (R.fnew b) fun e => .inr (e ▸ a0)
    kept := R.kept
    ns := R.ns
    LF := fun f => f.elim R.LF fun e => aL e.symm
    cells := fun y b l => ⟨(R.cells y b l).1, fun f => f.elim (R.cells y b l).2 (aC y b l)⟩
    pins := fun p hp => ⟨(R.pins p hp).1, fun f => f.elim (R.pins p hp).2 (aP p hp)⟩
    loc := fun y w e => by obtain ⟨q, S, r⟩ := R.loc y w e; exact ⟨q, S, r.later L⟩
    own := by rw [hown]; trivial
    noloc := R.noloc }
end
theorem repl_ints {ad : Ob → Addr} {F : Addr → Prop} {h : Heap} : ∀ {l : List Int} {xs : List Value}, IntsAre xs l → RepL ad F h (l.map V.int) xs
  | [], _, .nil => rfl
  | _ :: _, _, .cons i t q => ⟨_, _, rfl, ⟨t, rfl⟩, repl_ints q⟩

noncomputable def Start (st : St) (cells : List Int) : Prop := st.loc (Str.ofString "feed") = some (.obj .feed) ∧ st.loc (Str.ofString "circuit") = some (.obj .circ) ∧ st.loc (Str.ofString "world") = some (.obj .world) ∧ st.own = .none ∧
  st.g = { kinds := [Str.ofString "", Str.ofString "true"], parts := [[], []], known := [], at_ := 0, cells := cells, inputs := [], numbers := [], ready := false, done := false }
noncomputable def T_setup (st : St) (P : Fl → St → Prop) : Prop := (∃ ns : List Int, ns.length ≤ 63 ∧ st.loc (Str.ofString "script") = some (.lst (ns.map .int))) ∧ ∀ st', P (.ret (.bool true)) st'

theorem setup {c : Cx} (off : ¬ On c.ad) {n : Nat} {sc : List (Str × NameKind)} {rest : List Stmt} {comp : Expr} {Tc : St → (V → St → Prop) → Prop}
    {p1 q1 q2 q3 q4 q5 p2 p3 p4 p5 p6 r1 r2 r3 r4 r5 r6 r7 r8 r9 r10 : Pos} {k1 k2 k3 k4 k5 k6 : Nat}
    (hc : SemE c n sc comp Tc)
    (hTc : ∀ (st : St) (ns : List Int) (P : V → St → Prop), ns.length ≤ 63 → st.own = .none → st.loc (Str.ofString "script") = some (.lst (ns.map .int)) → (∀ cells : List Int, cells.length ≤ sizeLine → P (.lst (cells.map .int)) st) → Tc st P)
    (hf : sc.lookup (Str.ofString "feed") = some .local) (hci : sc.lookup (Str.ofString "circuit") = some .cell) (hw : sc.lookup (Str.ofString "world") = some .local)
    (hC : ∀ c : Cx, Callee c sc (.Name (Str.ofString "Circuit") p3) (.ref 245)) (hB : ∀ c : Cx, Callee c sc (.Name (Str.ofString "Binary") r5) (.ref 133))
    (hr : ∀ c : Cx, On c.ad → ∃ U, Ends c n sc rest U ∧ ∀ cells st, Start st cells → U st (fun b => b = true)) :
    SemB c n sc
      (.Assign [.Name (Str.ofString "feed") p1] (.Dict [some (.Constant (.str (Str.ofString "cells")) k1 q1), some (.Constant (.str (Str.ofString "at")) k2 q2)] [comp, .Constant (.int 0) k3 q3] q4) q5 ::
       .Assign [.Name (Str.ofString "circuit") p2] (.Call (.Name (Str.ofString "Circuit") p3) [] [] p4) p5 ::
       .Assign [.Name (Str.ofString "world") p6] (.Dict [some (.Constant (.str (Str.ofString "circuit")) k4 r1), some (.Constant (.str (Str.ofString "binary")) k5 r2), some (.Constant (.str (Str.ofString "numbers")) k6 r3)]
          [.Name (Str.ofString "circuit") r4, .Call (.Name (Str.ofString "Binary") r5) [.Name (Str.ofString "circuit") r6] [] r7, .List [] r8] r9) r10 :: rest) T_setup := by
  intro A X F s st P Q rm ok g ht hq
  obtain ⟨⟨ns, hl, hns⟩, hP⟩ := ht
  have gs := g.only (Str.ofString "script")
  refine wpAny_execs_cons (wpAny_Assign_Name (wpAny_Dict_walk (knd := PySem.strKind c.prog c.w) rfl rfl (by simp) (by show 2 ≤ 15; lia) ?_) (by rfl))
  refine pairTrees_cons_walk (Constant_str ?_)
  obtain ⟨df, hdf⟩ : ∃ df, df = s.heap.objs.size := ⟨_, rfl⟩
  have df0 : s.heap.get? df = none := by rw [hdf]; exact none_at_size _
  have fr0 : Free c X s.heap [df] := g.free fun b hb => by rw [List.mem_singleton.mp hb]; exact df0
  obtain ⟨H0, hH0⟩ : ∃ H0, H0 = s.heap.push mtDict := ⟨_, rfl⟩
  have up0 : ∀ b o, s.heap.get? b = some o → H0.get? b = some o := fun b o e => by rw [hH0]; exact Heap.get?_push_of_some _ e
  have at0 : H0.get? df = some mtDict := by rw [hH0, hdf]; exact Heap.get?_push_size _ rfl
  have nF0 : ¬ F df := fun f => by obtain ⟨o, e⟩ := g.froz df f; rw [df0] at e; cases e
  have gp := (gs.keepAll ok up0).repin (fr := [df]) fr0 (fun b hb => by rw [List.mem_singleton.mp hb]; exact nF0) (fun b hb x hx => by cases hx) (ps := [(df, mtDict)]) (fun p hp => by rw [List.mem_singleton.mp hp]; exact ⟨.head _, at0⟩)
  have okp := ok.pinned (ps := [(df, mtDict)]) fr0 fun p hp => by rw [List.mem_singleton.mp hp]; exact .head _
  dsimp only
  rw [← hdf]
  change wpAny _ _ (eval comp X.env) _ _ { s with heap := s.heap.push mtDict, toks := s.toks + 1 }
  rw [← hH0]
  refine hc A (X.pin [(df, mtDict)]) F { s with heap := H0, toks := s.toks + 1 } { loc := fun y => if y = Str.ofString "script" then st.loc y else none, own := .none, g := st.g } (fun v st' => ∃ cells : List Int, v = .lst (cells.map .int) ∧ cells.length ≤ sizeLine) _ rm okp gp (hTc _ ns _ hl rfl (by dsimp only; rw [if_pos rfl]; exact hns) fun cells hz => ⟨cells, rfl, hz⟩) fun F1 h1 tk1 v vv st1 g1 L1 rv p1 => ?_
  obtain ⟨cells, rfl, hz⟩ := p1
  obtain ⟨ca, xs, rfl, fca, pca, rca, zca⟩ := rv
  have at1 : h1.get? df = some mtDict := (g1.pins (df, mtDict) (.head _)).1
  have nF1 : ¬ F1 df := (g1.pins (df, mtDict) (.head _)).2
  have g1' := g1.unpin.bare
  have dL := fr0.loc df (.head _)
  have dC := fun x a l => (fr0.cell df (.head _) x a l)
  have dh := fr0.old df (.head _)
  have dP : ∀ p ∈ X.pins, p.1 ≠ df := fun p hp e => fr0.pin p hp (e ▸ .head _)
  refine pairTrees_cons_walk (Constant_str (wpAny_Constant_int (pairTrees_nil_walk ?_)))
  refine ⟨[(Str.ofString "cells", .ref ca), (Str.ofString "at", .int 0 _)], ⟨strIs (c := c) _ _, rfl, strIs (c := c) _ _, rfl, trivial⟩, ⟨mtDict, #[], 0, at1, ⟨rfl, rfl, rfl⟩, rfl, fun _ he => by simp at he, Pairs.nil, List.nodup_nil⟩, fun h2 hd2 hs2 => ?_⟩
  have mg2 : merged [] [(Str.ofString "cells", Value.ref ca), (Str.ofString "at", Value.int 0 (tk1 + 1))] = [(Str.ofString "cells", Value.ref ca), (Str.ofString "at", Value.int 0 (tk1 + 1))] := by
    have hne : ¬ Str.ofString "cells" = Str.ofString "at" := by decide
    simp [merged, stored, hne]
  have hd2' : h2.DictOf (PySem.strKind c.prog c.w) df [(Str.ofString "cells", .ref ca), (Str.ofString "at", .int 0 (tk1 + 1))] := by rw [← mg2]; exact hd2
  clear hd2
  obtain ⟨g2, L2⟩ := g1'.sameBut off rfl hs2 nF1 dh dL (fun x a l e => dC x a l e.symm) dP
  obtain ⟨od2, es2, ep2, e2, r2⟩ := hd2'
  obtain ⟨g2', L2'⟩ := g2.add off rfl e2 dh dL (fun x a l e => dC x a l e.symm) dP
  have g2c := g2'
  refine store_loc (v := .raw df) g2c ok rfl (.inl hf) fun h3 tk3 g3 L3 => ?_
  -- circuit = Circuit()
  refine wpAny_execs_cons (wpAny_Assign_Name (Call_ ((hC c).1 A X _ _ _ _ _ ok g3 ?_) (by rfl)) (by rfl))
  refine callWith_of (P := fun h => ∃ F, Stat c F h) (by rfl) (fun h ⟨F, S⟩ => (hC c).2 F h S) (evalArgs_any (by rfl) ?_)
  show wpAny _ _ (spliced []) _ _ _
  refine spliced_nil ⟨⟨_, ⟨g3.stat.K, g3.stat.b, g3.stat.lim, g3.stat.mg⟩⟩, ?_⟩
  have hroom : A.depth < 890 := by have := rm.d; lia
  have lim3 : ∀ h' : Heap, (∀ b o, h3.get? b = some o → h'.get? b = some o) → h'.NoLimit := fun h' k => let ⟨mc, n, q⟩ := g3.stat.lim.2; ⟨mc, n.keeps k, q⟩
  refine circ_new g3.stat.In lim3 hroom fun h4 tk4 x dx kl pl dl t1 t2 od u1 u2 up4 new4 nd4 nd4' dlsz e41 e42 e43 e44 e45 e46 e47 e48 => ?_
  obtain ⟨g4, L4⟩ := g3.grow ok up4 (fun a => a ∈ [x, dx, kl, pl, dl, t1, t2]) (fun a ha => ⟨new4 a ha, by
    simp only [List.mem_cons, List.not_mem_nil, or_false] at ha
    rcases ha with rfl | rfl | rfl | rfl | rfl | rfl | rfl <;> exact ⟨_, by assumption⟩⟩)
  have g4c := g4
  refine store_loc (v := .raw x) g4c ok rfl (.inr hci) fun h5 tk5 g5 L5 => ?_
  -- world = {..}
  refine wpAny_execs_cons (wpAny_Assign_Name (wpAny_Dict_walk (knd := PySem.strKind c.prog c.w) rfl rfl (by simp) (by show 3 ≤ 15; lia) ?_) (by rfl))
  refine pairTrees_cons_walk (Constant_str ?_)
  obtain ⟨dw, hdw⟩ : ∃ dw, dw = h5.objs.size := ⟨_, rfl⟩
  have dw0 : h5.get? dw = none := by rw [hdw]; exact none_at_size _
  have fr5 : Free _ X h5 [dw] := g5.free fun b hb => by rw [List.mem_singleton.mp hb]; exact dw0
  obtain ⟨h6, hh6⟩ : ∃ h6, h6 = h5.push mtDict := ⟨_, rfl⟩
  have up6 : ∀ b o, h5.get? b = some o → h6.get? b = some o := fun b o e => by rw [hh6]; exact Heap.get?_push_of_some _ e
  have at6 : h6.get? dw = some mtDict := by rw [hh6, hdw]; exact Heap.get?_push_size _ rfl
  have g6 := g5.keepAll ok up6
  dsimp only
  rw [← hdw, ← hh6]
  obtain ⟨uc, Sc, rc⟩ := g6.loc (Str.ofString "circuit") (.raw x) rfl
  obtain rfl : uc = .ref x := rc
  refine wpAny_Name (load_stored ok.kind Sc ?_ (by decide)) (by decide)
  refine pairTrees_cons_walk (Constant_str ?_)
  refine Call_ ((hB c).1 A X _ _ _ _ _ ok g6 ?_) (by rfl)
  refine callWith_of (P := fun h => ∃ F, Stat c F h) (by rfl) (fun h ⟨F, S⟩ => (hB c).2 F h S) (evalArgs_any (by rfl) ?_)
  show wpAny _ _ (spliced (backTo _ ((false, _) :: []))) _ _ _
  refine spliced_back (wpAny_Name (load_stored ok.kind Sc ?_ (by decide)) (by decide))
  refine spliced_nil ⟨⟨_, ⟨g6.stat.K, g6.stat.b, g6.stat.lim, g6.stat.mg⟩⟩, ?_⟩
  have lim6 : ∀ h' : Heap, (∀ b o, h6.get? b = some o → h'.get? b = some o) → h'.NoLimit := fun h' k => let ⟨mc, n, q⟩ := g6.stat.lim.2; ⟨mc, n.keeps k, q⟩
  refine bin_new g6.stat.In lim6 hroom fun h7 tk7 xb dxb odb up7 xb0 dxb0 e71 e72 e73 => ?_
  obtain ⟨g7, L7⟩ := g6.grow ok up7 (fun a => a = xb ∨ a = dxb) (fun a ha => by
    rcases ha with rfl | rfl
    · exact ⟨xb0, _, e71⟩
    · exact ⟨dxb0, _, e72⟩)
  refine pairTrees_cons_walk (Constant_str (List_ ?_))
  show wpAny _ _ (spliced []) _ _ _
  refine spliced_nil ?_
  refine wpAny_newObj_type ?_ (by show 0 ≤ 16777216; lia)
  obtain ⟨nl, hnl⟩ : ∃ nl, nl = h7.objs.size := ⟨_, rfl⟩
  have nl0 : h7.get? nl = none := by rw [hnl]; exact none_at_size _
  obtain ⟨h8, hh8⟩ : ∃ h8, h8 = h7.push (lstObj []) := ⟨_, rfl⟩
  have up8 : ∀ b o, h7.get? b = some o → h8.get? b = some o := fun b o e => by rw [hh8]; exact Heap.get?_push_of_some _ e
  have at8 : h8.get? nl = some (lstObj []) := by rw [hh8, hnl]; exact Heap.get?_push_size _ rfl
  have fr7 : Free _ X h7 [nl] := g7.free fun b hb => by rw [List.mem_singleton.mp hb]; exact nl0
  obtain ⟨g8, L8⟩ := g7.grow ok up8 (fun a => a = nl) (fun a ha => by subst ha; exact ⟨nl0, _, at8⟩)
  dsimp only
  change wpAny _ _ _ _ _ { heap := h7.push (lstObj []), gens := s.gens, drawn := s.drawn, toks := _, os := s.os }
  rw [← hnl, ← hh8]
  refine pairTrees_nil_walk ?_
  have at8w : h8.get? dw = some mtDict := up8 _ _ (up7 _ _ at6)
  refine ⟨[(Str.ofString "circuit", .ref x), (Str.ofString "binary", .ref xb), (Str.ofString "numbers", .ref nl)], ⟨strIs (c := c) _ _, rfl, strIs (c := c) _ _, rfl, strIs (c := c) _ _, rfl, trivial⟩, ⟨mtDict, #[], 0, at8w, ⟨rfl, rfl, rfl⟩, rfl, fun _ he => by simp at he, Pairs.nil, List.nodup_nil⟩, fun h9 hd9 hs9 => ?_⟩
  have mg9 : merged [] [(Str.ofString "circuit", Value.ref x), (Str.ofString "binary", Value.ref xb), (Str.ofString "numbers", Value.ref nl)] = [(Str.ofString "circuit", Value.ref x), (Str.ofString "binary", Value.ref xb), (Str.ofString "numbers", Value.ref nl)] := by
    have hne : ¬ Str.ofString "circuit" = Str.ofString "binary" := by decide
    have hne2 : ¬ Str.ofString "circuit" = Str.ofString "numbers" := by decide
    have hne3 : ¬ Str.ofString "binary" = Str.ofString "numbers" := by decide
    simp [merged, stored, hne, hne2, hne3]
  rw [mg9] at hd9
  obtain ⟨o9, es9, ep9, e9, r9'⟩ := hd9
  have wF5 : ∀ b, b = dw → ¬ ((F1 b ∨ b = df) ∨ b ∈ [x, dx, kl, pl, dl, t1, t2]) := fun b e f => by
    obtain ⟨o, q⟩ := g5.froz b f
    rw [e, dw0] at q; cases q
  have xbw : xb ≠ dw := fun e => by rw [e, at6] at xb0; cases xb0
  have dxbw : dxb ≠ dw := fun e => by rw [e, at6] at dxb0; cases dxb0
  have nlw : nl ≠ dw := fun e => by rw [e, up7 _ _ at6] at nl0; cases nl0
  obtain ⟨g9, L9⟩ := g8.sameBut off rfl hs9 (fun f => by
    rcases f with (f | f | f) | f
    · exact wF5 _ rfl f
    · exact xbw f.symm
    · exact dxbw f.symm
    · exact nlw f.symm) (fr5.old dw (.head _)) (fr5.loc dw (.head _)) (fun y a l e => fr5.cell dw (.head _) y a l e.symm) (fun p hp e => fr5.pin p hp (e ▸ .head _))
  obtain ⟨g9', L9'⟩ := g9.add off rfl e9 (fr5.old dw (.head _)) (fr5.loc dw (.head _)) (fun y a l e => fr5.cell dw (.head _) y a l e.symm) (fun p hp e => fr5.pin p hp (e ▸ .head _))
  have g9c := g9'
  refine store_loc (v := .raw dw) g9c ok rfl (.inl hw) fun h10 tk10 g10 L10 => ?_
  have ix : x ∈ [x, dx, kl, pl, dl, t1, t2] := .head _
  have idx : dx ∈ [x, dx, kl, pl, dl, t1, t2] := .tail _ (.head _)
  have ikl : kl ∈ [x, dx, kl, pl, dl, t1, t2] := .tail _ (.tail _ (.head _))
  have ipl : pl ∈ [x, dx, kl, pl, dl, t1, t2] := .tail _ (.tail _ (.tail _ (.head _)))
  have idl : dl ∈ [x, dx, kl, pl, dl, t1, t2] := .tail _ (.tail _ (.tail _ (.tail _ (.head _))))
  have it1 : t1 ∈ [x, dx, kl, pl, dl, t1, t2] := .tail _ (.tail _ (.tail _ (.tail _ (.tail _ (.head _)))))
  have it2 : t2 ∈ [x, dx, kl, pl, dl, t1, t2] := .tail _ (.tail _ (.tail _ (.tail _ (.tail _ (.tail _ (.head _))))))
  have jx : x ∈ [x, dx, t1, t2] := .head _
  have jdx : dx ∈ [x, dx, t1, t2] := .tail _ (.head _)
  have jt1 : t1 ∈ [x, dx, t1, t2] := .tail _ (.tail _ (.head _))
  have jt2 : t2 ∈ [x, dx, t1, t2] := .tail _ (.tail _ (.tail _ (.head _)))
  have kkl : kl ∈ [kl, pl, dl] := .head _
  have kpl : pl ∈ [kl, pl, dl] := .tail _ (.head _)
  have kdl : dl ∈ [kl, pl, dl] := .tail _ (.tail _ (.head _))
  have L56 := Later.keepAll (F := fun a => (F1 a ∨ a = df) ∨ a ∈ [x, dx, kl, pl, dl, t1, t2]) up6
  have M8 := L9.trans (L9'.trans L10)
  have M7 := L8.trans M8
  have M4 := ((L5.trans L56).trans L7).trans M7
  have M3 := L4.trans M4
  have M2 := L3.trans M3
  have M1 := L2.trans (L2'.trans M2)
  have M0 := ((Later.keepAll (F := F) up0).trans L1).trans M1
  have m7 : ∀ a ∈ [x, dx, kl, pl, dl, t1, t2], h3.get? a = none := new4
  have ex := M4.2 x _ (.inr ix) e41
  have edx := M4.2 dx _ (.inr idx) e42
  have ekl := M4.2 kl _ (.inr ikl) e44
  have epl := M4.2 pl _ (.inr ipl) e45
  have et1 := M4.2 t1 _ (.inr it1) e46
  have et2 := M4.2 t2 _ (.inr it2) e47
  have edl := M4.2 dl _ (.inr idl) e48
  have edf := M2.2 df _ (.inr rfl) e2
  have exb := M7.2 xb _ (.inr (.inl rfl)) e71
  have edxb := M7.2 dxb _ (.inr (.inr rfl)) e72
  have enl := M8.2 nl _ (.inr rfl) at8
  have edw := L10.2 dw _ (.inr rfl) e9
  have eca : PLst h10 ca xs := pca.at fun o e => M1.2 ca o fca e
  have hx1 := M4.1 x (.inr ix)
  have hdx1 := M4.1 dx (.inr idx)
  have ht11 := M4.1 t1 (.inr it1)
  have ht21 := M4.1 t2 (.inr it2)
  have hxb1 := M7.1 xb (.inr (.inl rfl))
  have hdxb1 := M7.1 dxb (.inr (.inr rfl))
  have hca1 := M1.1 ca fca
  have F0' := M0.1
  have K0' := M0.2
  have at3 : h3.get? df = some od2 := L3.2 df _ (.inr rfl) e2
  have f4nl : ∀ a, ((F1 a ∨ a = df) ∨ a ∈ [x, dx, kl, pl, dl, t1, t2]) → a ≠ nl := fun a f e => by
    obtain ⟨o, q⟩ := g7.froz a (.inl f); rw [e, nl0] at q; cases q
  have f4dw : ∀ a, ((F1 a ∨ a = df) ∨ a ∈ [x, dx, kl, pl, dl, t1, t2]) → a ≠ dw := fun a f e => wF5 a e f
  have f4b : ∀ a, ((F1 a ∨ a = df) ∨ a ∈ [x, dx, kl, pl, dl, t1, t2]) → a ≠ xb ∧ a ≠ dxb := fun a f => by
    obtain ⟨o, q⟩ := g6.froz a f
    exact ⟨fun e => (by rw [e, xb0] at q; cases q), fun e => (by rw [e, dxb0] at q; cases q)⟩
  have f1k : ∀ a, (F1 a ∨ a = df) → ∀ b ∈ [x, dx, kl, pl, dl, t1, t2], a ≠ b := fun a f b hb e => by
    obtain ⟨o, q⟩ := g3.froz a f; rw [e, m7 b hb] at q; cases q
  have fr3 : Free _ X h3 [x, dx, kl, pl, dl, t1, t2] := g3.free m7
  obtain ⟨c', hc'⟩ : ∃ c' : Cx, c' = ⟨c.prog, c.w, fun k => match k with | .circ => x | .bin => xb | .feed => df | .world => dw | .kinds => kl | .parts => pl | .known => dl | .numbers => nl, nl⟩ := ⟨_, rfl⟩
  have gmo : ∀ a, GM c' a → a = df ∨ a = kl ∨ a = pl ∨ a = dl ∨ a = nl ∨ a = dw := fun a m => by subst hc'; exact m.2
  have ng : ∀ a, a ≠ df → a ≠ kl → a ≠ pl → a ≠ dl → a ≠ nl → a ≠ dw → ¬ GM c' a := fun a q1 q2 q3 q4 q5 q6 m => by
    rcases gmo a m with m | m | m | m | m | m
    · exact q1 m
    · exact q2 m
    · exact q3 m
    · exact q4 m
    · exact q5 m
    · exact q6 m
  have nFk : ∀ b ∈ [x, dx, kl, pl, dl, t1, t2], ¬ F b := fun b hb f => f1k b (.inl (L1.1 b f)) b hb rfl
  have nFnl : ¬ F nl := fun f => f4nl nl (.inl (.inl (L1.1 nl f))) rfl
  have nFdw : ¬ F dw := fun f => f4dw dw (.inl (.inl (L1.1 dw f))) rfl
  have mk7 : ∀ a ∈ [x, dx, kl, pl, dl, t1, t2], X.h₀.get? a = none ∧ a ≠ X.env.locals ∧ (∀ y b, X.env.cells.lookup y = some b → a ≠ b) ∧ (∀ p ∈ X.pins, p.1 ≠ a) ∧ ¬ F a := fun a i =>
    ⟨fr3.old a i, fr3.loc a i, fun y b l => fr3.cell a i y b l, fun p hp e => fr3.pin p hp (e ▸ i), nFk a i⟩
  have gmn : ∀ a, GM c' a → X.h₀.get? a = none ∧ a ≠ X.env.locals ∧ (∀ y b, X.env.cells.lookup y = some b → a ≠ b) ∧ (∀ p ∈ X.pins, p.1 ≠ a) ∧ ¬ F a := fun a m => by
    rcases gmo a m with e | e | e | e | e | e
    · rw [e]; exact ⟨dh, dL, fun y b l => dC y b l, dP, nF0⟩
    · rw [e]; exact mk7 _ ikl
    · rw [e]; exact mk7 _ ipl
    · rw [e]; exact mk7 _ idl
    · rw [e]; exact ⟨fr7.old _ (.head _), fr7.loc _ (.head _), fun y b l => fr7.cell _ (.head _) y b l, fun p hp e => fr7.pin p hp (e ▸ .head _), nFnl⟩
    · rw [e]; exact ⟨fr5.old _ (.head _), fr5.loc _ (.head _), fun y b l => fr5.cell _ (.head _) y b l, fun p hp e => fr5.pin p hp (e ▸ .head _), nFdw⟩
  have ngx : ¬ GM c' x := ng x (fun e => f1k df (.inr rfl) x ix e.symm) (nd4' x jx kl kkl) (nd4' x jx pl kpl) (nd4' x jx dl kdl) (f4nl x (.inr ix)) (f4dw x (.inr ix))
  have ngdx : ¬ GM c' dx := ng dx (fun e => f1k df (.inr rfl) dx idx e.symm) (nd4' dx jdx kl kkl) (nd4' dx jdx pl kpl) (nd4' dx jdx dl kdl) (f4nl dx (.inr idx)) (f4dw dx (.inr idx))
  have ngt1 : ¬ GM c' t1 := ng t1 (fun e => f1k df (.inr rfl) t1 it1 e.symm) (nd4' t1 jt1 kl kkl) (nd4' t1 jt1 pl kpl) (nd4' t1 jt1 dl kdl) (f4nl t1 (.inr it1)) (f4dw t1 (.inr it1))
  have ngt2 : ¬ GM c' t2 := ng t2 (fun e => f1k df (.inr rfl) t2 it2 e.symm) (nd4' t2 jt2 kl kkl) (nd4' t2 jt2 pl kpl) (nd4' t2 jt2 dl kdl) (f4nl t2 (.inr it2)) (f4dw t2 (.inr it2))
  have ngca : ¬ GM c' ca := ng ca (fun e => nF1 (e ▸ fca)) (f1k ca (.inl fca) kl ikl) (f1k ca (.inl fca) pl ipl) (f1k ca (.inl fca) dl idl) (f4nl ca (.inl (.inl fca))) (f4dw ca (.inl (.inl fca)))
  have ngxb : ¬ GM c' xb := ng xb ((f4b df (.inl (.inr rfl))).1.symm) ((f4b kl (.inr ikl)).1.symm) ((f4b pl (.inr ipl)).1.symm) ((f4b dl (.inr idl)).1.symm) (fun e => by rw [e, nl0] at e71; cases e71) xbw
  have ngdxb : ¬ GM c' dxb := ng dxb ((f4b df (.inl (.inr rfl))).2.symm) ((f4b kl (.inr ikl)).2.symm) ((f4b pl (.inr ipl)).2.symm) ((f4b dl (.inr idl)).2.symm) (fun e => by rw [e, nl0] at e72; cases e72) dxbw
  have dnodup : [df, kl, pl, dl, nl, dw].Nodup := by
    simp only [List.nodup_cons, List.mem_cons, List.not_mem_nil, or_false, not_or, not_false_eq_true, List.nodup_nil, and_true] at nd4 ⊢
    exact ⟨⟨f1k df (.inr rfl) kl ikl, f1k df (.inr rfl) pl ipl, f1k df (.inr rfl) dl idl, f4nl df (.inl (.inr rfl)), f4dw df (.inl (.inr rfl))⟩, ⟨nd4.1.1, nd4.1.2, f4nl kl (.inr ikl), f4dw kl (.inr ikl)⟩, ⟨nd4.2, f4nl pl (.inr ipl), f4dw pl (.inr ipl)⟩, ⟨f4nl dl (.inr idl), f4dw dl (.inr idl)⟩, nlw⟩
  have nsys : (dl == sysModules) = false := beq_eq_false_iff_ne.mpr (Nat.ne_of_gt (Nat.lt_of_lt_of_le (modules_low g3.stat.lim.2) dlsz))
  obtain ⟨FF, gF, hFx, hFdx, hFt1, hFt2, hFxb, hFdxb, hFca, hFF⟩ : ∃ FF, Good _ X FF h10 _ ∧ FF x ∧ FF dx ∧ FF t1 ∧ FF t2 ∧ FF xb ∧ FF dxb ∧ FF ca ∧ ∀ a, F a → FF a := ⟨_, g10, hx1, hdx1, ht11, ht21, hxb1, hdxb1, hca1, F0'⟩
  have hF' : ∀ a, F a → FF a ∧ ¬ GM c' a := fun a f => ⟨hFF a f, fun m => (gmn a m).2.2.2.2 f⟩
  have rm' : Room A n := ⟨rm.h, rm.d, rm.u⟩
  have ok' : ActOk c' sc ⟨X.env, X.h₀, X.F₀, X.pins⟩ :=
    { kind := ok.kind, glob := ok.glob, blt := ok.blt, loc := ok.loc, gl := ok.gl, cell := ok.cell, free := ok.free, inj := ok.inj, Lnew := ok.Lnew
      Lgm := fun m => (gmn _ m).2.1 rfl
      cgm := fun y a l => ⟨fun m => (gmn a m).2.2.1 y a l rfl, (ok.cgm y a l).2⟩
      pin := fun p hp => ⟨(ok.pin p hp).1, fun m => (gmn _ m).2.2.2.1 p hp rfl, (ok.pin p hp).2.2⟩ }
  have RP : RepL c'.ad (fun a => FF a ∧ ¬ GM c' a) h10 (([[], []] : List (List Int)).map fun l => .tup (l.map .int)) [.ref t1, .ref t2] :=
    ⟨.ref t1, [.ref t2], rfl, ⟨t1, [], rfl, ⟨hFt1, ngt1⟩, ⟨0, et1⟩, rfl, by decide⟩, ⟨.ref t2, [], rfl, ⟨t2, [], rfl, ⟨hFt2, ngt2⟩, ⟨0, et2⟩, rfl, by decide⟩, rfl⟩⟩
  have RK : RepL c'.ad (fun a => FF a ∧ ¬ GM c' a) h10 ([Str.ofString "", Str.ofString "true"].map .str) [.str (Str.ofString "") u1, .str (Str.ofString "true") u2] :=
    ⟨_, _, rfl, ⟨u1, rfl⟩, _, _, rfl, ⟨u2, rfl⟩, rfl⟩
  have hon' : On c'.ad := by subst hc'; exact f1k df (.inr rfl) kl ikl
  have hG : GRep c' (fun a => FF a ∧ ¬ GM c' a) h10 { kinds := [Str.ofString "", Str.ofString "true"], parts := [[], []], known := [], at_ := 0, cells := cells, inputs := [], numbers := [], ready := false, done := false } := by
    subst hc'
    exact { nf := fun a f => f.2, real := fun _ => {
      circ := ⟨dx, od, ⟨hFx, ngx⟩, ⟨hFdx, ngdx⟩, ex, edx, e43⟩
      bin := ⟨dxb, odb, ⟨hFxb, ngxb⟩, ⟨hFdxb, ngdxb⟩, exb, edxb, e73⟩
      world := .inl ⟨rfl, o9, es9, ep9, edw, r9'⟩
      feed := ⟨ca, xs, _, ⟨hFca, ngca⟩, eca, repl_ints rca.ints, hz, od2, es2, ep2, edf, r2⟩
      kinds := ⟨_, ⟨0, ekl⟩, RK, by show 2 ≤ 16777216; lia⟩
      parts := ⟨_, ⟨0, epl⟩, RP, by show 2 ≤ 16777216; lia⟩
      known := ⟨[], ⟨mtDict, #[], 0, edl, ⟨rfl, rfl, rfl⟩, rfl, rfl, fun y hy => (by cases hy), List.nodup_nil⟩, rfl, by show 0 ≤ 16777216; lia⟩
      numbers := ⟨[], ⟨0, enl⟩, rfl, by show 0 ≤ 16777216; lia⟩
      live := .inl ⟨rfl, rfl⟩
      apart := dnodup
      nsys := nsys } }
  have K1 : ∀ a o, F a → s.heap.get? a = some o → h10.get? a = some o := K0'
  have hGood : Good c' ⟨X.env, X.h₀, X.F₀, X.pins⟩ (fun a => FF a ∧ ¬ GM c' a) h10 { loc := fun y => if y = Str.ofString "feed" then some (.obj .feed) else if y = Str.ofString "circuit" then some (.obj .circ) else if y = Str.ofString "world" then some (.obj .world) else none, own := .none, g := { kinds := [Str.ofString "", Str.ofString "true"], parts := [[], []], known := [], at_ := 0, cells := cells, inputs := [], numbers := [], ready := false, done := false } } := by
    refine {
      stat := ?_
      g := hG
      froz := fun a f => gF.froz a f.1
      fnew := fun a f => gF.fnew a f.1
      kept := fun a o e m => gF.kept a o e (fun m => off m.1)
      ns := gF.ns
      LF := fun f => gF.LF f.1
      cells := fun y a l => ⟨(gF.cells y a l).1, fun f => (gF.cells y a l).2 f.1⟩
      pins := fun p hp => ⟨(gF.pins p hp).1, fun f => (gF.pins p hp).2 f.1⟩
      loc := ?_
      own := trivial
      noloc := fun y e => by cases e }
    · have hK : c'.K = c.K := by subst hc'; rfl
      refine ⟨fun a o e => ?_, ⟨hF' _ g.stat.b.1, ?_⟩, ⟨hF' _ g.stat.lim.1, ?_⟩, ⟨hF' _ g.stat.mg.1, ?_⟩⟩
      · rw [hK] at e
        obtain ⟨f, q⟩ := g.stat.K a o e
        exact ⟨hF' a f, K1 a o f q⟩
      · obtain ⟨mb, n, q⟩ := g.stat.b.2
        exact ⟨mb, n.at' fun o e => K1 _ o g.stat.b.1 e, q⟩
      · obtain ⟨mc, n, q⟩ := g.stat.lim.2
        exact ⟨mc, n.at' fun o e => K1 _ o g.stat.lim.1 e, q⟩
      · obtain ⟨mg, n⟩ := g.stat.mg.2
        exact ⟨mg, n.at' fun o e => K1 _ o g.stat.mg.1 e⟩
    · intro y v e
      dsimp only at e
      split at e
      · rename_i hy
        cases e; subst hy
        obtain ⟨u, S, r⟩ := gF.loc (Str.ofString "feed") (.raw df) rfl
        exact ⟨u, S, by subst hc'; exact ⟨r, hon'⟩⟩
      · split at e
        · rename_i hy
          cases e; subst hy
          obtain ⟨u, S, r⟩ := gF.loc (Str.ofString "circuit") (.raw x) rfl
          exact ⟨u, S, by subst hc'; exact ⟨r, hon'⟩⟩
        · split at e
          · rename_i hy
            cases e; subst hy
            obtain ⟨u, S, r⟩ := gF.loc (Str.ofString "world") (.raw dw) rfl
            exact ⟨u, S, by subst hc'; exact ⟨r, hon'⟩⟩
          · cases e
  obtain ⟨U, hU, hS⟩ := hr c' hon'
  have hprog : c'.prog = c.prog ∧ c'.w = c.w := by subst hc'; exact ⟨rfl, rfl⟩
  have hrun := hU A ⟨X.env, X.h₀, X.F₀, X.pins⟩ (fun a => FF a ∧ ¬ GM c' a) { s with heap := h10, toks := tk10 } _ (fun b => b = true) Q rm' ok' hGood (fun a m => (gmn a m).1) (hS cells _ ⟨rfl, rfl, rfl, rfl, rfl⟩) fun c2 F2 h11 tk11 b st11 g11 L11 gm2 hb => ?_
  · rw [hprog.1, hprog.2] at hrun
    exact hrun
  · subst hb
    have Lt : ∀ a o, F a → s.heap.get? a = some o → h11.get? a = some o := fun a o f e => L11.2 a o (hF' a f) (K1 a o f e)
    have LL : Later F s.heap F h11 := ⟨fun _ f => f, fun a o f e => Lt a o f e⟩
    refine hq F h11 tk11 (.ret (.bool true)) (.ret (.bool true)) (bare st) ?_ LL ⟨_, rfl, rfl⟩ (hP _)
    exact {
      stat := g.stat.later LL
      g := off_g off
      froz := fun a f => by obtain ⟨o, e⟩ := g.froz a f; exact ⟨o, Lt a o f e⟩
      fnew := g.fnew
      kept := fun a o e m => g11.kept a o e fun m => by have := (gmn a (gm2 a m)).1; rw [e] at this; cases this
      ns := g11.ns
      LF := g.LF
      cells := fun y a l => ⟨(g11.cells y a l).1, (g.cells y a l).2⟩
      pins := fun p hp => ⟨(g11.pins p hp).1, (g.pins p hp).2⟩
      loc := fun y v e => by cases e
      own := trivial
      noloc := fun y e => by cases e }

theorem intsP : ∀ (zs : List Int) (acc : List V) (st : St) (B : List V → St → Prop), (∀ st2, st2.g = st.g → B (acc ++ zs.map .int) st2) →
    compT (fun it st P => match it with | .one v => P (st.set (Str.ofString "this") v) | _ => False) (fun st P => P true st)
      (fun st P => T_name (Str.ofString "this") st fun v st1 => (fun vs st2 => (fun vs st1 => S_int vs st1.g fun r g' => P r { st1 with g := g' }) (v :: vs) st2) [] st1) ((zs.map V.int).map .one) acc st B
  | [], acc, st, B, h => by
    show B acc st
    have := h st rfl
    simpa using this
  | z :: zs, acc, st, B, h => by
    have key := intsP zs (acc ++ [.int z]) (st.set (Str.ofString "this") (.int z)) B fun st2 h2 => by
      have := h st2 h2
      simpa using this
    exact key
theorem tnameP {x : Str} {st : St} {v : V} {P : V → St → Prop} (e : st.loc x = some v) (h : P v st) : T_name x st P := by
  unfold T_name
  rw [e]; exact h
noncomputable def S_law (args : List V) (g : G) (P : V → G → Prop) : Prop := ∃ ns : List Int, args = [.lst (ns.map .int)] ∧ ns.length ≤ 63 ∧ ∀ g', P (.bool true) g'
noncomputable def Mid (st : St) : Prop := ∃ (m : Nat) (L : Str → Option V) (ad : Addr) (g : G) (a b : List Int) (x1 x2 x3 : Int), st = ⟨L, .lst (Str.ofString "gates") ad [.int x1, .int x2, .int x3] true, g⟩ ∧ L (Str.ofString "world") = some (.obj .world) ∧ L (Str.ofString "gates") = none ∧
  L (Str.ofString "one") = some (numV m g a) ∧ L (Str.ofString "other") = some (numV m g b) ∧ Wd m g ∧ (∀ v ∈ g.numbers, Right m 12 g v) ∧ g.numbers.length ≤ 10 ∧ Num g a ∧ Num g b ∧ Gate g x1 ∧ Gate g x2 ∧ Gate g x3 ∧
  (∀ row, lit g row x1 = decide (num g row a < num g row b)) ∧ (∀ row, lit g row x2 = decide (num g row a ≤ num g row b)) ∧ (∀ row, lit g row x3 = decide (num g row a = num g row b)) ∧ g.kinds.length ≤ gateCap ∧ g.done = true
theorem f_law (c : Cx) (off : ¬ On c.ad) : CallS c 12 (.ref 305) S_law := by
  refine' callS_intro ?kk ?ho ?hcd ?hbind ?hkind ?hfree ?hco ?hgen ?hk ?hB ?hS
  case ho => (show (hd.heap_39 _).lookup _ = _; with_unfolding_all rfl)
  case hcd => kernel_rfl
  case hkind => rfl
  case hfree => rfl
  case hco => rfl
  case hgen => rfl
  case hk => rfl
  case kk => exact 1
  case hbind => (intro xs hx; obtain ⟨a, ee⟩ := len1 hx; subst ee; rfl)
  case hB =>
    refine' setup off ?hc ?hTc ?hf ?hci ?hw ?hC ?hB ?hr
    case hc =>
      refine' e_comp ?ht ?hi ?hif ?he ?g1 ?g2 ?g3 ?g4
      case ht => exact .name (.inl rfl)
      case hi =>
        refine' i_val ?hv
        case hv =>
          refine' e_upto ?hl ?hr2
          case hl =>
            refine' e_name ?n1 ?n2
            case n1 => rfl
            case n2 => rfl
          case hr2 => exact e_int
      case hif => exact i_nil
      case he =>
        refine' e_call ?hfe c_int ?hm ?ha ?c1 ?c2
        case hfe => (refine' callee_boot ?b1 ?b2 ?b3 ?b4 ?b5 ?b6; (case b3 => with_unfolding_all rfl); (case b1 => with_unfolding_all rfl); (case b2 => kernel_rfl); (case b4 => decide); (case b5 => rfl); (case b6 => with_unfolding_all rfl))
        case hm => decide
        case ha =>
          refine' a_cons ?ha1 a_nil ?ha2
          case ha1 =>
            refine' e_name ?n3 ?n4
            case n3 => rfl
            case n4 => rfl
          case ha2 => (intros; rfl)
        case c1 => (intros; rfl)
        case c2 => (intros; rfl)
      case g1 => rfl
      case g2 => decide
      case g3 => rfl
      case g4 => (intros; rfl)
    case hTc =>
      intro st ns P hl ho hs hP
      obtain ⟨L, o, g⟩ := st
      dsimp only at ho hs
      subst ho
      unfold T_comp
      dsimp only
      refine tnameP (v := .lst (ns.map .int)) hs ?_
      refine ⟨by decide, ?_⟩
      rw [← List.map_take]
      refine intsP (ns.take 24) [] _ _ fun st2 h2 => ?_
      have h2' : st2.g = g := h2
      rw [h2', List.nil_append]
      exact hP (ns.take 24) (by show (ns.take 24).length ≤ 16777216; rw [List.length_take]; omega)
    case hf => rfl
    case hci => rfl
    case hw => rfl
    case hC => (intro c; refine' callee_def ?d1 ?d2 ?d3 ?d4; (case d1 => with_unfolding_all rfl); (case d2 => with_unfolding_all rfl); (case d3 => kernel_rfl); (case d4 => rfl))
    case hB => (intro c; refine' callee_def ?d1 ?d2 ?d3 ?d4; (case d1 => with_unfolding_all rfl); (case d2 => with_unfolding_all rfl); (case d3 => kernel_rfl); (case d4 => rfl))
    case hr =>
      intro c' hon'
      refine' ⟨_, ?hE, ?hU⟩
      case hE =>
        refine' ends_cons ?ha ?hz
        case ha =>
          repeat' first
            | (with_reducible refine' s_nil)
            | (with_reducible refine' s_cons ?_ ?_)
            | (with_reducible refine' s_ret ?_)
            | (with_reducible refine' s_if ?_ ?_ ?_)
            | ((with_reducible refine' s_setobj ?_ ?_ ?_ ?h2); (case h2 => (intros; with_unfolding_all rfl)))
            | ((with_reducible refine' s_for ?ht ?_ ?_ ?h2); (case ht => walk_at "mine tgt"); (case h2 => (intros; with_unfolding_all rfl)))
            | (with_reducible refine' e_int)
            | (with_reducible refine' e_str)
            | (with_reducible refine' e_bool)
            | ((with_reducible refine' e_name2 ?h1 ?h2); (case h1 | h2 => (intros; with_unfolding_all rfl)))
            | (with_reducible refine' t_not ?_)
            | ((with_reducible refine' oe_c_lt ?_ ?_ ?h1); (case h1 => with_unfolding_all rfl))
            | ((with_reducible refine' oe_c_le ?_ ?_ ?h1); (case h1 => with_unfolding_all rfl))
            | ((with_reducible refine' oe_c_eq ?_ ?_ ?h1); (case h1 => with_unfolding_all rfl))
            | ((with_reducible refine' ot_c_ne ?_ ?_ ?h1); (case h1 => with_unfolding_all rfl))
            | ((with_reducible refine' ot_c_notIn ?_ ?_ ?h1); (case h1 => with_unfolding_all rfl))
            | ((with_reducible refine' t_of ?_ ?h1); (case h1 => (intros; with_unfolding_all rfl)))
            | (with_reducible refine' e_neg ?_)
            | (with_reducible refine' o_b_add2 ?_ ?_)
            | (with_reducible refine' o_b_sub ?_ ?_)
            | (with_reducible refine' o_b_mul2 ?_ ?_)
            | (with_reducible refine' o_b_shl ?_ ?_)
            | ((with_reducible refine' e_subn ?_ ?h1 ?h2 ?h3); (case h1 | h2 | h3 => (intros; with_unfolding_all rfl)))
            | ((with_reducible refine' e_sub ?_ ?_ ?h1); (case h1 => (intros; with_unfolding_all rfl)))
            | (with_reducible refine' a_nil)
            | ((with_reducible refine' a_cons ?_ ?_ ?h1); (case h1 => (intros; with_unfolding_all rfl)))
            | (with_reducible refine' e_tup ?_)
            | (with_reducible refine' e_lst ?_)
            | (with_reducible refine' i_nil)
            | (with_reducible refine' i_one ?_)
            | (with_reducible refine' i_pairs ?_)
            | (with_reducible refine' i_val ?_)
            | ((with_reducible refine' e_comp ?ht ?_ ?_ ?_ ?h1 ?h2 ?h3 ?h4); (case ht => walk_at "mine tgt"); (case h2 => decide); (case h1 | h3 | h4 => (intros; with_unfolding_all rfl)))
            | ((with_reducible refine' e_listzip ?hfl ?hfz ?_ ?h1 ?h2 ?h3 ?h4); (case hfl => walk_at "mine callee"); (case hfz => walk_at "mine callee"); (case h1 | h2 | h3 | h4 => (intros; with_unfolding_all rfl)))
            | ((with_reducible refine' e_call ?hfe ?hC ?hm ?_ ?h1 ?h2); (case hfe => walk_at "mine callee"); (case hC => (first | exact c_range | exact f_draw _ | exact f_new_input _ | exact f_number _ | exact f_reckoned _ | exact f_below _ | exact f_at_most _ | exact f_equal _ | exact f_constant _ | exact c_len | exact f_known _ | exact f_is_number _ | exact f_is_gate _)); (case hm => decide); (case h1 | h2 => (intros; with_unfolding_all rfl)))
            | ((with_reducible refine' e_append ?_ ?h1 ?h2 ?h3 ?h4); (case h1 | h2 | h3 | h4 => (intros; with_unfolding_all rfl)))
            | ((with_reducible refine' e_appobj ?_ ?_ ?h1 ?h2); (case h1 | h2 => (intros; with_unfolding_all rfl)))
            | ((with_reducible refine' e_meth (k := .circ) ?_ ?hC ?hm ?_ ?h1 ?h2 ?h3 ?h4 ?h5 ?h6); (case h1 => with_unfolding_all rfl); (case hC => (first | exact c_range | exact f_draw _ | exact f_new_input _ | exact f_number _ | exact f_reckoned _ | exact f_below _ | exact f_at_most _ | exact f_equal _ | exact f_constant _ | exact c_len | exact f_known _ | exact f_is_number _ | exact f_is_gate _)); (case hm => decide); (case h2 => kernel_rfl); (case h3 => kernel_rfl); (case h4 | h5 | h6 => (intros; with_unfolding_all rfl)))
            | ((with_reducible refine' e_meth (k := .bin) ?_ ?hC ?hm ?_ ?h1 ?h2 ?h3 ?h4 ?h5 ?h6); (case h1 => with_unfolding_all rfl); (case hC => (first | exact c_range | exact f_draw _ | exact f_new_input _ | exact f_number _ | exact f_reckoned _ | exact f_below _ | exact f_at_most _ | exact f_equal _ | exact f_constant _ | exact c_len | exact f_known _ | exact f_is_number _ | exact f_is_gate _)); (case hm => decide); (case h2 => kernel_rfl); (case h3 => kernel_rfl); (case h4 | h5 | h6 => (intros; with_unfolding_all rfl)))
            | ((with_reducible refine' s_ownlst ?_ ?h1 ?h2); (case h1 => first | exact .inl rfl | exact .inr rfl); (case h2 => (intros; with_unfolding_all rfl)))
            | ((with_reducible refine' s_two ?_ ?h1 ?h2 ?h3 ?h4); (case h1 => first | exact .inl rfl | exact .inr rfl); (case h2 => first | exact .inl rfl | exact .inr rfl); (case h3 => (intros; with_unfolding_all rfl)); (case h4 => walk_at "mine swapped"))
            | ((with_reducible refine' s_asgn ?_ ?h1 ?h2); (case h1 => first | exact .inl rfl | exact .inr rfl); (case h2 => walk_at "mine plain"))
            | ((with_reducible refine' s_expr ?_ ?h2); (case h2 => (intros; with_unfolding_all rfl)))
        case hz =>
          refine' ends_cons ?ha ?hz
          case ha =>
            repeat' first
              | (with_reducible refine' s_nil)
              | (with_reducible refine' s_cons ?_ ?_)
              | (with_reducible refine' s_ret ?_)
              | (with_reducible refine' s_if ?_ ?_ ?_)
              | ((with_reducible refine' s_setobj ?_ ?_ ?_ ?h2); (case h2 => (intros; with_unfolding_all rfl)))
              | ((with_reducible refine' s_for ?ht ?_ ?_ ?h2); (case ht => walk_at "mine tgt"); (case h2 => (intros; with_unfolding_all rfl)))
              | (with_reducible refine' e_int)
              | (with_reducible refine' e_str)
              | (with_reducible refine' e_bool)
              | ((with_reducible refine' e_name2 ?h1 ?h2); (case h1 | h2 => (intros; with_unfolding_all rfl)))
              | (with_reducible refine' t_not ?_)
              | ((with_reducible refine' oe_c_lt ?_ ?_ ?h1); (case h1 => with_unfolding_all rfl))
              | ((with_reducible refine' oe_c_le ?_ ?_ ?h1); (case h1 => with_unfolding_all rfl))
              | ((with_reducible refine' oe_c_eq ?_ ?_ ?h1); (case h1 => with_unfolding_all rfl))
              | ((with_reducible refine' ot_c_ne ?_ ?_ ?h1); (case h1 => with_unfolding_all rfl))
              | ((with_reducible refine' ot_c_notIn ?_ ?_ ?h1); (case h1 => with_unfolding_all rfl))
              | ((with_reducible refine' t_of ?_ ?h1); (case h1 => (intros; with_unfolding_all rfl)))
              | (with_reducible refine' e_neg ?_)
              | (with_reducible refine' o_b_add2 ?_ ?_)
              | (with_reducible refine' o_b_sub ?_ ?_)
              | (with_reducible refine' o_b_mul2 ?_ ?_)
              | (with_reducible refine' o_b_shl ?_ ?_)
              | ((with_reducible refine' e_subn ?_ ?h1 ?h2 ?h3); (case h1 | h2 | h3 => (intros; with_unfolding_all rfl)))
              | ((with_reducible refine' e_sub ?_ ?_ ?h1); (case h1 => (intros; with_unfolding_all rfl)))
              | (with_reducible refine' a_nil)
              | ((with_reducible refine' a_cons ?_ ?_ ?h1); (case h1 => (intros; with_unfolding_all rfl)))
              | (with_reducible refine' e_tup ?_)
              | (with_reducible refine' e_lst ?_)
              | (with_reducible refine' i_nil)
              | (with_reducible refine' i_one ?_)
              | (with_reducible refine' i_pairs ?_)
              | (with_reducible refine' i_val ?_)
              | ((with_reducible refine' e_comp ?ht ?_ ?_ ?_ ?h1 ?h2 ?h3 ?h4); (case ht => walk_at "mine tgt"); (case h2 => decide); (case h1 | h3 | h4 => (intros; with_unfolding_all rfl)))
              | ((with_reducible refine' e_listzip ?hfl ?hfz ?_ ?h1 ?h2 ?h3 ?h4); (case hfl => walk_at "mine callee"); (case hfz => walk_at "mine callee"); (case h1 | h2 | h3 | h4 => (intros; with_unfolding_all rfl)))
              | ((with_reducible refine' e_call ?hfe ?hC ?hm ?_ ?h1 ?h2); (case hfe => walk_at "mine callee"); (case hC => (first | exact c_range | exact f_draw _ | exact f_new_input _ | exact f_number _ | exact f_reckoned _ | exact f_below _ | exact f_at_most _ | exact f_equal _ | exact f_constant _ | exact c_len | exact f_known _ | exact f_is_number _ | exact f_is_gate _)); (case hm => decide); (case h1 | h2 => (intros; with_unfolding_all rfl)))
              | ((with_reducible refine' e_append ?_ ?h1 ?h2 ?h3 ?h4); (case h1 | h2 | h3 | h4 => (intros; with_unfolding_all rfl)))
              | ((with_reducible refine' e_appobj ?_ ?_ ?h1 ?h2); (case h1 | h2 => (intros; with_unfolding_all rfl)))
              | ((with_reducible refine' e_meth (k := .circ) ?_ ?hC ?hm ?_ ?h1 ?h2 ?h3 ?h4 ?h5 ?h6); (case h1 => with_unfolding_all rfl); (case hC => (first | exact c_range | exact f_draw _ | exact f_new_input _ | exact f_number _ | exact f_reckoned _ | exact f_below _ | exact f_at_most _ | exact f_equal _ | exact f_constant _ | exact c_len | exact f_known _ | exact f_is_number _ | exact f_is_gate _)); (case hm => decide); (case h2 => kernel_rfl); (case h3 => kernel_rfl); (case h4 | h5 | h6 => (intros; with_unfolding_all rfl)))
              | ((with_reducible refine' e_meth (k := .bin) ?_ ?hC ?hm ?_ ?h1 ?h2 ?h3 ?h4 ?h5 ?h6); (case h1 => with_unfolding_all rfl); (case hC => (first | exact c_range | exact f_draw _ | exact f_new_input _ | exact f_number _ | exact f_reckoned _ | exact f_below _ | exact f_at_most _ | exact f_equal _ | exact f_constant _ | exact c_len | exact f_known _ | exact f_is_number _ | exact f_is_gate _)); (case hm => decide); (case h2 => kernel_rfl); (case h3 => kernel_rfl); (case h4 | h5 | h6 => (intros; with_unfolding_all rfl)))
              | ((with_reducible refine' s_ownlst ?_ ?h1 ?h2); (case h1 => first | exact .inl rfl | exact .inr rfl); (case h2 => (intros; with_unfolding_all rfl)))
              | ((with_reducible refine' s_two ?_ ?h1 ?h2 ?h3 ?h4); (case h1 => first | exact .inl rfl | exact .inr rfl); (case h2 => first | exact .inl rfl | exact .inr rfl); (case h3 => (intros; with_unfolding_all rfl)); (case h4 => walk_at "mine swapped"))
              | ((with_reducible refine' s_asgn ?_ ?h1 ?h2); (case h1 => first | exact .inl rfl | exact .inr rfl); (case h2 => walk_at "mine plain"))
              | ((with_reducible refine' s_expr ?_ ?h2); (case h2 => (intros; with_unfolding_all rfl)))
          case hz =>
            refine' ends_cons ?ha ?hz
            case ha =>
              repeat' first
                | (with_reducible refine' s_nil)
                | (with_reducible refine' s_cons ?_ ?_)
                | (with_reducible refine' s_ret ?_)
                | (with_reducible refine' s_if ?_ ?_ ?_)
                | ((with_reducible refine' s_setobj ?_ ?_ ?_ ?h2); (case h2 => (intros; with_unfolding_all rfl)))
                | ((with_reducible refine' s_for ?ht ?_ ?_ ?h2); (case ht => walk_at "mine tgt"); (case h2 => (intros; with_unfolding_all rfl)))
                | (with_reducible refine' e_int)
                | (with_reducible refine' e_str)
                | (with_reducible refine' e_bool)
                | ((with_reducible refine' e_name2 ?h1 ?h2); (case h1 | h2 => (intros; with_unfolding_all rfl)))
                | (with_reducible refine' t_not ?_)
                | ((with_reducible refine' oe_c_lt ?_ ?_ ?h1); (case h1 => with_unfolding_all rfl))
                | ((with_reducible refine' oe_c_le ?_ ?_ ?h1); (case h1 => with_unfolding_all rfl))
                | ((with_reducible refine' oe_c_eq ?_ ?_ ?h1); (case h1 => with_unfolding_all rfl))
                | ((with_reducible refine' ot_c_ne ?_ ?_ ?h1); (case h1 => with_unfolding_all rfl))
                | ((with_reducible refine' ot_c_notIn ?_ ?_ ?h1); (case h1 => with_unfolding_all rfl))
                | ((with_reducible refine' t_of ?_ ?h1); (case h1 => (intros; with_unfolding_all rfl)))
                | (with_reducible refine' e_neg ?_)
                | (with_reducible refine' o_b_add2 ?_ ?_)
                | (with_reducible refine' o_b_sub ?_ ?_)
                | (with_reducible refine' o_b_mul2 ?_ ?_)
                | (with_reducible refine' o_b_shl ?_ ?_)
                | ((with_reducible refine' e_subn ?_ ?h1 ?h2 ?h3); (case h1 | h2 | h3 => (intros; with_unfolding_all rfl)))
                | ((with_reducible refine' e_sub ?_ ?_ ?h1); (case h1 => (intros; with_unfolding_all rfl)))
                | (with_reducible refine' a_nil)
                | ((with_reducible refine' a_cons ?_ ?_ ?h1); (case h1 => (intros; with_unfolding_all rfl)))
                | (with_reducible refine' e_tup ?_)
                | (with_reducible refine' e_lst ?_)
                | (with_reducible refine' i_nil)
                | (with_reducible refine' i_one ?_)
                | (with_reducible refine' i_pairs ?_)
                | (with_reducible refine' i_val ?_)
                | ((with_reducible refine' e_comp ?ht ?_ ?_ ?_ ?h1 ?h2 ?h3 ?h4); (case ht => walk_at "mine tgt"); (case h2 => decide); (case h1 | h3 | h4 => (intros; with_unfolding_all rfl)))
                | ((with_reducible refine' e_listzip ?hfl ?hfz ?_ ?h1 ?h2 ?h3 ?h4); (case hfl => walk_at "mine callee"); (case hfz => walk_at "mine callee"); (case h1 | h2 | h3 | h4 => (intros; with_unfolding_all rfl)))
                | ((with_reducible refine' e_call ?hfe ?hC ?hm ?_ ?h1 ?h2); (case hfe => walk_at "mine callee"); (case hC => (first | exact c_range | exact f_draw _ | exact f_new_input _ | exact f_number _ | exact f_reckoned _ | exact f_below _ | exact f_at_most _ | exact f_equal _ | exact f_constant _ | exact c_len | exact f_known _ | exact f_is_number _ | exact f_is_gate _)); (case hm => decide); (case h1 | h2 => (intros; with_unfolding_all rfl)))
                | ((with_reducible refine' e_append ?_ ?h1 ?h2 ?h3 ?h4); (case h1 | h2 | h3 | h4 => (intros; with_unfolding_all rfl)))
                | ((with_reducible refine' e_appobj ?_ ?_ ?h1 ?h2); (case h1 | h2 => (intros; with_unfolding_all rfl)))
                | ((with_reducible refine' e_meth (k := .circ) ?_ ?hC ?hm ?_ ?h1 ?h2 ?h3 ?h4 ?h5 ?h6); (case h1 => with_unfolding_all rfl); (case hC => (first | exact c_range | exact f_draw _ | exact f_new_input _ | exact f_number _ | exact f_reckoned _ | exact f_below _ | exact f_at_most _ | exact f_equal _ | exact f_constant _ | exact c_len | exact f_known _ | exact f_is_number _ | exact f_is_gate _)); (case hm => decide); (case h2 => kernel_rfl); (case h3 => kernel_rfl); (case h4 | h5 | h6 => (intros; with_unfolding_all rfl)))
                | ((with_reducible refine' e_meth (k := .bin) ?_ ?hC ?hm ?_ ?h1 ?h2 ?h3 ?h4 ?h5 ?h6); (case h1 => with_unfolding_all rfl); (case hC => (first | exact c_range | exact f_draw _ | exact f_new_input _ | exact f_number _ | exact f_reckoned _ | exact f_below _ | exact f_at_most _ | exact f_equal _ | exact f_constant _ | exact c_len | exact f_known _ | exact f_is_number _ | exact f_is_gate _)); (case hm => decide); (case h2 => kernel_rfl); (case h3 => kernel_rfl); (case h4 | h5 | h6 => (intros; with_unfolding_all rfl)))
                | ((with_reducible refine' s_ownlst ?_ ?h1 ?h2); (case h1 => first | exact .inl rfl | exact .inr rfl); (case h2 => (intros; with_unfolding_all rfl)))
                | ((with_reducible refine' s_two ?_ ?h1 ?h2 ?h3 ?h4); (case h1 => first | exact .inl rfl | exact .inr rfl); (case h2 => first | exact .inl rfl | exact .inr rfl); (case h3 => (intros; with_unfolding_all rfl)); (case h4 => walk_at "mine swapped"))
                | ((with_reducible refine' s_asgn ?_ ?h1 ?h2); (case h1 => first | exact .inl rfl | exact .inr rfl); (case h2 => walk_at "mine plain"))
                | ((with_reducible refine' s_expr ?_ ?h2); (case h2 => (intros; with_unfolding_all rfl)))
            case hz =>
              refine' ends_cons ?ha ?hz
              case ha =>
                repeat' first
                  | (with_reducible refine' s_nil)
                  | (with_reducible refine' s_cons ?_ ?_)
                  | (with_reducible refine' s_ret ?_)
                  | (with_reducible refine' s_if ?_ ?_ ?_)
                  | ((with_reducible refine' s_setobj ?_ ?_ ?_ ?h2); (case h2 => (intros; with_unfolding_all rfl)))
                  | ((with_reducible refine' s_for ?ht ?_ ?_ ?h2); (case ht => walk_at "mine tgt"); (case h2 => (intros; with_unfolding_all rfl)))
                  | (with_reducible refine' e_int)
                  | (with_reducible refine' e_str)
                  | (with_reducible refine' e_bool)
                  | ((with_reducible refine' e_name2 ?h1 ?h2); (case h1 | h2 => (intros; with_unfolding_all rfl)))
                  | (with_reducible refine' t_not ?_)
                  | ((with_reducible refine' oe_c_lt ?_ ?_ ?h1); (case h1 => with_unfolding_all rfl))
                  | ((with_reducible refine' oe_c_le ?_ ?_ ?h1); (case h1 => with_unfolding_all rfl))
                  | ((with_reducible refine' oe_c_eq ?_ ?_ ?h1); (case h1 => with_unfolding_all rfl))
                  | ((with_reducible refine' ot_c_ne ?_ ?_ ?h1); (case h1 => with_unfolding_all rfl))
                  | ((with_reducible refine' ot_c_notIn ?_ ?_ ?h1); (case h1 => with_unfolding_all rfl))
                  | ((with_reducible refine' t_of ?_ ?h1); (case h1 => (intros; with_unfolding_all rfl)))
                  | (with_reducible refine' e_neg ?_)
                  | (with_reducible refine' o_b_add2 ?_ ?_)
                  | (with_reducible refine' o_b_sub ?_ ?_)
                  | (with_reducible refine' o_b_mul2 ?_ ?_)
                  | (with_reducible refine' o_b_shl ?_ ?_)
                  | ((with_reducible refine' e_subn ?_ ?h1 ?h2 ?h3); (case h1 | h2 | h3 => (intros; with_unfolding_all rfl)))
                  | ((with_reducible refine' e_sub ?_ ?_ ?h1); (case h1 => (intros; with_unfolding_all rfl)))
                  | (with_reducible refine' a_nil)
                  | ((with_reducible refine' a_cons ?_ ?_ ?h1); (case h1 => (intros; with_unfolding_all rfl)))
                  | (with_reducible refine' e_tup ?_)
                  | (with_reducible refine' e_lst ?_)
                  | (with_reducible refine' i_nil)
                  | (with_reducible refine' i_one ?_)
                  | (with_reducible refine' i_pairs ?_)
                  | (with_reducible refine' i_val ?_)
                  | ((with_reducible refine' e_comp ?ht ?_ ?_ ?_ ?h1 ?h2 ?h3 ?h4); (case ht => walk_at "mine tgt"); (case h2 => decide); (case h1 | h3 | h4 => (intros; with_unfolding_all rfl)))
                  | ((with_reducible refine' e_listzip ?hfl ?hfz ?_ ?h1 ?h2 ?h3 ?h4); (case hfl => walk_at "mine callee"); (case hfz => walk_at "mine callee"); (case h1 | h2 | h3 | h4 => (intros; with_unfolding_all rfl)))
                  | ((with_reducible refine' e_call ?hfe ?hC ?hm ?_ ?h1 ?h2); (case hfe => walk_at "mine callee"); (case hC => (first | exact c_range | exact f_draw _ | exact f_new_input _ | exact f_number _ | exact f_reckoned _ | exact f_below _ | exact f_at_most _ | exact f_equal _ | exact f_constant _ | exact c_len | exact f_known _ | exact f_is_number _ | exact f_is_gate _)); (case hm => decide); (case h1 | h2 => (intros; with_unfolding_all rfl)))
                  | ((with_reducible refine' e_append ?_ ?h1 ?h2 ?h3 ?h4); (case h1 | h2 | h3 | h4 => (intros; with_unfolding_all rfl)))
                  | ((with_reducible refine' e_appobj ?_ ?_ ?h1 ?h2); (case h1 | h2 => (intros; with_unfolding_all rfl)))
                  | ((with_reducible refine' e_meth (k := .circ) ?_ ?hC ?hm ?_ ?h1 ?h2 ?h3 ?h4 ?h5 ?h6); (case h1 => with_unfolding_all rfl); (case hC => (first | exact c_range | exact f_draw _ | exact f_new_input _ | exact f_number _ | exact f_reckoned _ | exact f_below _ | exact f_at_most _ | exact f_equal _ | exact f_constant _ | exact c_len | exact f_known _ | exact f_is_number _ | exact f_is_gate _)); (case hm => decide); (case h2 => kernel_rfl); (case h3 => kernel_rfl); (case h4 | h5 | h6 => (intros; with_unfolding_all rfl)))
                  | ((with_reducible refine' e_meth (k := .bin) ?_ ?hC ?hm ?_ ?h1 ?h2 ?h3 ?h4 ?h5 ?h6); (case h1 => with_unfolding_all rfl); (case hC => (first | exact c_range | exact f_draw _ | exact f_new_input _ | exact f_number _ | exact f_reckoned _ | exact f_below _ | exact f_at_most _ | exact f_equal _ | exact f_constant _ | exact c_len | exact f_known _ | exact f_is_number _ | exact f_is_gate _)); (case hm => decide); (case h2 => kernel_rfl); (case h3 => kernel_rfl); (case h4 | h5 | h6 => (intros; with_unfolding_all rfl)))
                  | ((with_reducible refine' s_ownlst ?_ ?h1 ?h2); (case h1 => first | exact .inl rfl | exact .inr rfl); (case h2 => (intros; with_unfolding_all rfl)))
                  | ((with_reducible refine' s_two ?_ ?h1 ?h2 ?h3 ?h4); (case h1 => first | exact .inl rfl | exact .inr rfl); (case h2 => first | exact .inl rfl | exact .inr rfl); (case h3 => (intros; with_unfolding_all rfl)); (case h4 => walk_at "mine swapped"))
                  | ((with_reducible refine' s_asgn ?_ ?h1 ?h2); (case h1 => first | exact .inl rfl | exact .inr rfl); (case h2 => walk_at "mine plain"))
                  | ((with_reducible refine' s_expr ?_ ?h2); (case h2 => (intros; with_unfolding_all rfl)))
              case hz =>
                refine' ends_cons ?ha ?hz
                case ha =>
                  repeat' first
                    | (with_reducible refine' s_nil)
                    | (with_reducible refine' s_cons ?_ ?_)
                    | (with_reducible refine' s_ret ?_)
                    | (with_reducible refine' s_if ?_ ?_ ?_)
                    | ((with_reducible refine' s_setobj ?_ ?_ ?_ ?h2); (case h2 => (intros; with_unfolding_all rfl)))
                    | ((with_reducible refine' s_for ?ht ?_ ?_ ?h2); (case ht => walk_at "mine tgt"); (case h2 => (intros; with_unfolding_all rfl)))
                    | (with_reducible refine' e_int)
                    | (with_reducible refine' e_str)
                    | (with_reducible refine' e_bool)
                    | ((with_reducible refine' e_name2 ?h1 ?h2); (case h1 | h2 => (intros; with_unfolding_all rfl)))
                    | (with_reducible refine' t_not ?_)
                    | ((with_reducible refine' oe_c_lt ?_ ?_ ?h1); (case h1 => with_unfolding_all rfl))
                    | ((with_reducible refine' oe_c_le ?_ ?_ ?h1); (case h1 => with_unfolding_all rfl))
                    | ((with_reducible refine' oe_c_eq ?_ ?_ ?h1); (case h1 => with_unfolding_all rfl))
                    | ((with_reducible refine' ot_c_ne ?_ ?_ ?h1); (case h1 => with_unfolding_all rfl))
                    | ((with_reducible refine' ot_c_notIn ?_ ?_ ?h1); (case h1 => with_unfolding_all rfl))
                    | ((with_reducible refine' t_of ?_ ?h1); (case h1 => (intros; with_unfolding_all rfl)))
                    | (with_reducible refine' e_neg ?_)
                    | (with_reducible refine' o_b_add2 ?_ ?_)
                    | (with_reducible refine' o_b_sub ?_ ?_)
                    | (with_reducible refine' o_b_mul2 ?_ ?_)
                    | (with_reducible refine' o_b_shl ?_ ?_)
                    | ((with_reducible refine' e_subn ?_ ?h1 ?h2 ?h3); (case h1 | h2 | h3 => (intros; with_unfolding_all rfl)))
                    | ((with_reducible refine' e_sub ?_ ?_ ?h1); (case h1 => (intros; with_unfolding_all rfl)))
                    | (with_reducible refine' a_nil)
                    | ((with_reducible refine' a_cons ?_ ?_ ?h1); (case h1 => (intros; with_unfolding_all rfl)))
                    | (with_reducible refine' e_tup ?_)
                    | (with_reducible refine' e_lst ?_)
                    | (with_reducible refine' i_nil)
                    | (with_reducible refine' i_one ?_)
                    | (with_reducible refine' i_pairs ?_)
                    | (with_reducible refine' i_val ?_)
                    | ((with_reducible refine' e_comp ?ht ?_ ?_ ?_ ?h1 ?h2 ?h3 ?h4); (case ht => walk_at "mine tgt"); (case h2 => decide); (case h1 | h3 | h4 => (intros; with_unfolding_all rfl)))
                    | ((with_reducible refine' e_listzip ?hfl ?hfz ?_ ?h1 ?h2 ?h3 ?h4); (case hfl => walk_at "mine callee"); (case hfz => walk_at "mine callee"); (case h1 | h2 | h3 | h4 => (intros; with_unfolding_all rfl)))
                    | ((with_reducible refine' e_call ?hfe ?hC ?hm ?_ ?h1 ?h2); (case hfe => walk_at "mine callee"); (case hC => (first | exact c_range | exact f_draw _ | exact f_new_input _ | exact f_number _ | exact f_reckoned _ | exact f_below _ | exact f_at_most _ | exact f_equal _ | exact f_constant _ | exact c_len | exact f_known _ | exact f_is_number _ | exact f_is_gate _)); (case hm => decide); (case h1 | h2 => (intros; with_unfolding_all rfl)))
                    | ((with_reducible refine' e_append ?_ ?h1 ?h2 ?h3 ?h4); (case h1 | h2 | h3 | h4 => (intros; with_unfolding_all rfl)))
                    | ((with_reducible refine' e_appobj ?_ ?_ ?h1 ?h2); (case h1 | h2 => (intros; with_unfolding_all rfl)))
                    | ((with_reducible refine' e_meth (k := .circ) ?_ ?hC ?hm ?_ ?h1 ?h2 ?h3 ?h4 ?h5 ?h6); (case h1 => with_unfolding_all rfl); (case hC => (first | exact c_range | exact f_draw _ | exact f_new_input _ | exact f_number _ | exact f_reckoned _ | exact f_below _ | exact f_at_most _ | exact f_equal _ | exact f_constant _ | exact c_len | exact f_known _ | exact f_is_number _ | exact f_is_gate _)); (case hm => decide); (case h2 => kernel_rfl); (case h3 => kernel_rfl); (case h4 | h5 | h6 => (intros; with_unfolding_all rfl)))
                    | ((with_reducible refine' e_meth (k := .bin) ?_ ?hC ?hm ?_ ?h1 ?h2 ?h3 ?h4 ?h5 ?h6); (case h1 => with_unfolding_all rfl); (case hC => (first | exact c_range | exact f_draw _ | exact f_new_input _ | exact f_number _ | exact f_reckoned _ | exact f_below _ | exact f_at_most _ | exact f_equal _ | exact f_constant _ | exact c_len | exact f_known _ | exact f_is_number _ | exact f_is_gate _)); (case hm => decide); (case h2 => kernel_rfl); (case h3 => kernel_rfl); (case h4 | h5 | h6 => (intros; with_unfolding_all rfl)))
                    | ((with_reducible refine' s_ownlst ?_ ?h1 ?h2); (case h1 => first | exact .inl rfl | exact .inr rfl); (case h2 => (intros; with_unfolding_all rfl)))
                    | ((with_reducible refine' s_two ?_ ?h1 ?h2 ?h3 ?h4); (case h1 => first | exact .inl rfl | exact .inr rfl); (case h2 => first | exact .inl rfl | exact .inr rfl); (case h3 => (intros; with_unfolding_all rfl)); (case h4 => walk_at "mine swapped"))
                    | ((with_reducible refine' s_asgn ?_ ?h1 ?h2); (case h1 => first | exact .inl rfl | exact .inr rfl); (case h2 => walk_at "mine plain"))
                    | ((with_reducible refine' s_expr ?_ ?h2); (case h2 => (intros; with_unfolding_all rfl)))
                case hz =>
                  refine' ends_cons ?ha ?hz
                  case ha =>
                    repeat' first
                      | (with_reducible refine' s_nil)
                      | (with_reducible refine' s_cons ?_ ?_)
                      | (with_reducible refine' s_ret ?_)
                      | (with_reducible refine' s_if ?_ ?_ ?_)
                      | ((with_reducible refine' s_setobj ?_ ?_ ?_ ?h2); (case h2 => (intros; with_unfolding_all rfl)))
                      | ((with_reducible refine' s_for ?ht ?_ ?_ ?h2); (case ht => walk_at "mine tgt"); (case h2 => (intros; with_unfolding_all rfl)))
                      | (with_reducible refine' e_int)
                      | (with_reducible refine' e_str)
                      | (with_reducible refine' e_bool)
                      | ((with_reducible refine' e_name2 ?h1 ?h2); (case h1 | h2 => (intros; with_unfolding_all rfl)))
                      | (with_reducible refine' t_not ?_)
                      | ((with_reducible refine' oe_c_lt ?_ ?_ ?h1); (case h1 => with_unfolding_all rfl))
                      | ((with_reducible refine' oe_c_le ?_ ?_ ?h1); (case h1 => with_unfolding_all rfl))
                      | ((with_reducible refine' oe_c_eq ?_ ?_ ?h1); (case h1 => with_unfolding_all rfl))
                      | ((with_reducible refine' ot_c_ne ?_ ?_ ?h1); (case h1 => with_unfolding_all rfl))
                      | ((with_reducible refine' ot_c_notIn ?_ ?_ ?h1); (case h1 => with_unfolding_all rfl))
                      | ((with_reducible refine' t_of ?_ ?h1); (case h1 => (intros; with_unfolding_all rfl)))
                      | (with_reducible refine' e_neg ?_)
                      | (with_reducible refine' o_b_add2 ?_ ?_)
                      | (with_reducible refine' o_b_sub ?_ ?_)
                      | (with_reducible refine' o_b_mul2 ?_ ?_)
                      | (with_reducible refine' o_b_shl ?_ ?_)
                      | ((with_reducible refine' e_subn ?_ ?h1 ?h2 ?h3); (case h1 | h2 | h3 => (intros; with_unfolding_all rfl)))
                      | ((with_reducible refine' e_sub ?_ ?_ ?h1); (case h1 => (intros; with_unfolding_all rfl)))
                      | (with_reducible refine' a_nil)
                      | ((with_reducible refine' a_cons ?_ ?_ ?h1); (case h1 => (intros; with_unfolding_all rfl)))
                      | (with_reducible refine' e_tup ?_)
                      | (with_reducible refine' e_lst ?_)
                      | (with_reducible refine' i_nil)
                      | (with_reducible refine' i_one ?_)
                      | (with_reducible refine' i_pairs ?_)
                      | (with_reducible refine' i_val ?_)
                      | ((with_reducible refine' e_comp ?ht ?_ ?_ ?_ ?h1 ?h2 ?h3 ?h4); (case ht => walk_at "mine tgt"); (case h2 => decide); (case h1 | h3 | h4 => (intros; with_unfolding_all rfl)))
                      | ((with_reducible refine' e_listzip ?hfl ?hfz ?_ ?h1 ?h2 ?h3 ?h4); (case hfl => walk_at "mine callee"); (case hfz => walk_at "mine callee"); (case h1 | h2 | h3 | h4 => (intros; with_unfolding_all rfl)))
                      | ((with_reducible refine' e_call ?hfe ?hC ?hm ?_ ?h1 ?h2); (case hfe => walk_at "mine callee"); (case hC => (first | exact c_range | exact f_draw _ | exact f_new_input _ | exact f_number _ | exact f_reckoned _ | exact f_below _ | exact f_at_most _ | exact f_equal _ | exact f_constant _ | exact c_len | exact f_known _ | exact f_is_number _ | exact f_is_gate _)); (case hm => decide); (case h1 | h2 => (intros; with_unfolding_all rfl)))
                      | ((with_reducible refine' e_append ?_ ?h1 ?h2 ?h3 ?h4); (case h1 | h2 | h3 | h4 => (intros; with_unfolding_all rfl)))
                      | ((with_reducible refine' e_appobj ?_ ?_ ?h1 ?h2); (case h1 | h2 => (intros; with_unfolding_all rfl)))
                      | ((with_reducible refine' e_meth (k := .circ) ?_ ?hC ?hm ?_ ?h1 ?h2 ?h3 ?h4 ?h5 ?h6); (case h1 => with_unfolding_all rfl); (case hC => (first | exact c_range | exact f_draw _ | exact f_new_input _ | exact f_number _ | exact f_reckoned _ | exact f_below _ | exact f_at_most _ | exact f_equal _ | exact f_constant _ | exact c_len | exact f_known _ | exact f_is_number _ | exact f_is_gate _)); (case hm => decide); (case h2 => kernel_rfl); (case h3 => kernel_rfl); (case h4 | h5 | h6 => (intros; with_unfolding_all rfl)))
                      | ((with_reducible refine' e_meth (k := .bin) ?_ ?hC ?hm ?_ ?h1 ?h2 ?h3 ?h4 ?h5 ?h6); (case h1 => with_unfolding_all rfl); (case hC => (first | exact c_range | exact f_draw _ | exact f_new_input _ | exact f_number _ | exact f_reckoned _ | exact f_below _ | exact f_at_most _ | exact f_equal _ | exact f_constant _ | exact c_len | exact f_known _ | exact f_is_number _ | exact f_is_gate _)); (case hm => decide); (case h2 => kernel_rfl); (case h3 => kernel_rfl); (case h4 | h5 | h6 => (intros; with_unfolding_all rfl)))
                      | ((with_reducible refine' s_ownlst ?_ ?h1 ?h2); (case h1 => first | exact .inl rfl | exact .inr rfl); (case h2 => (intros; with_unfolding_all rfl)))
                      | ((with_reducible refine' s_two ?_ ?h1 ?h2 ?h3 ?h4); (case h1 => first | exact .inl rfl | exact .inr rfl); (case h2 => first | exact .inl rfl | exact .inr rfl); (case h3 => (intros; with_unfolding_all rfl)); (case h4 => walk_at "mine swapped"))
                      | ((with_reducible refine' s_asgn ?_ ?h1 ?h2); (case h1 => first | exact .inl rfl | exact .inr rfl); (case h2 => walk_at "mine plain"))
                      | ((with_reducible refine' s_expr ?_ ?h2); (case h2 => (intros; with_unfolding_all rfl)))
                  case hz =>
                    refine' ends_cons ?ha ?hz
                    case ha =>
                      repeat' first
                        | (with_reducible refine' s_nil)
                        | (with_reducible refine' s_cons ?_ ?_)
                        | (with_reducible refine' s_ret ?_)
                        | (with_reducible refine' s_if ?_ ?_ ?_)
                        | ((with_reducible refine' s_setobj ?_ ?_ ?_ ?h2); (case h2 => (intros; with_unfolding_all rfl)))
                        | ((with_reducible refine' s_for ?ht ?_ ?_ ?h2); (case ht => walk_at "mine tgt"); (case h2 => (intros; with_unfolding_all rfl)))
                        | (with_reducible refine' e_int)
                        | (with_reducible refine' e_str)
                        | (with_reducible refine' e_bool)
                        | ((with_reducible refine' e_name2 ?h1 ?h2); (case h1 | h2 => (intros; with_unfolding_all rfl)))
                        | (with_reducible refine' t_not ?_)
                        | ((with_reducible refine' oe_c_lt ?_ ?_ ?h1); (case h1 => with_unfolding_all rfl))
                        | ((with_reducible refine' oe_c_le ?_ ?_ ?h1); (case h1 => with_unfolding_all rfl))
                        | ((with_reducible refine' oe_c_eq ?_ ?_ ?h1); (case h1 => with_unfolding_all rfl))
                        | ((with_reducible refine' ot_c_ne ?_ ?_ ?h1); (case h1 => with_unfolding_all rfl))
                        | ((with_reducible refine' ot_c_notIn ?_ ?_ ?h1); (case h1 => with_unfolding_all rfl))
                        | ((with_reducible refine' t_of ?_ ?h1); (case h1 => (intros; with_unfolding_all rfl)))
                        | (with_reducible refine' e_neg ?_)
                        | (with_reducible refine' o_b_add2 ?_ ?_)
                        | (with_reducible refine' o_b_sub ?_ ?_)
                        | (with_reducible refine' o_b_mul2 ?_ ?_)
                        | (with_reducible refine' o_b_shl ?_ ?_)
                        | ((with_reducible refine' e_subn ?_ ?h1 ?h2 ?h3); (case h1 | h2 | h3 => (intros; with_unfolding_all rfl)))
                        | ((with_reducible refine' e_sub ?_ ?_ ?h1); (case h1 => (intros; with_unfolding_all rfl)))
                        | (with_reducible refine' a_nil)
                        | ((with_reducible refine' a_cons ?_ ?_ ?h1); (case h1 => (intros; with_unfolding_all rfl)))
                        | (with_reducible refine' e_tup ?_)
                        | (with_reducible refine' e_lst ?_)
                        | (with_reducible refine' i_nil)
                        | (with_reducible refine' i_one ?_)
                        | (with_reducible refine' i_pairs ?_)
                        | (with_reducible refine' i_val ?_)
                        | ((with_reducible refine' e_comp ?ht ?_ ?_ ?_ ?h1 ?h2 ?h3 ?h4); (case ht => walk_at "mine tgt"); (case h2 => decide); (case h1 | h3 | h4 => (intros; with_unfolding_all rfl)))
                        | ((with_reducible refine' e_listzip ?hfl ?hfz ?_ ?h1 ?h2 ?h3 ?h4); (case hfl => walk_at "mine callee"); (case hfz => walk_at "mine callee"); (case h1 | h2 | h3 | h4 => (intros; with_unfolding_all rfl)))
                        | ((with_reducible refine' e_call ?hfe ?hC ?hm ?_ ?h1 ?h2); (case hfe => walk_at "mine callee"); (case hC => (first | exact c_range | exact f_draw _ | exact f_new_input _ | exact f_number _ | exact f_reckoned _ | exact f_below _ | exact f_at_most _ | exact f_equal _ | exact f_constant _ | exact c_len | exact f_known _ | exact f_is_number _ | exact f_is_gate _)); (case hm => decide); (case h1 | h2 => (intros; with_unfolding_all rfl)))
                        | ((with_reducible refine' e_append ?_ ?h1 ?h2 ?h3 ?h4); (case h1 | h2 | h3 | h4 => (intros; with_unfolding_all rfl)))
                        | ((with_reducible refine' e_appobj ?_ ?_ ?h1 ?h2); (case h1 | h2 => (intros; with_unfolding_all rfl)))
                        | ((with_reducible refine' e_meth (k := .circ) ?_ ?hC ?hm ?_ ?h1 ?h2 ?h3 ?h4 ?h5 ?h6); (case h1 => with_unfolding_all rfl); (case hC => (first | exact c_range | exact f_draw _ | exact f_new_input _ | exact f_number _ | exact f_reckoned _ | exact f_below _ | exact f_at_most _ | exact f_equal _ | exact f_constant _ | exact c_len | exact f_known _ | exact f_is_number _ | exact f_is_gate _)); (case hm => decide); (case h2 => kernel_rfl); (case h3 => kernel_rfl); (case h4 | h5 | h6 => (intros; with_unfolding_all rfl)))
                        | ((with_reducible refine' e_meth (k := .bin) ?_ ?hC ?hm ?_ ?h1 ?h2 ?h3 ?h4 ?h5 ?h6); (case h1 => with_unfolding_all rfl); (case hC => (first | exact c_range | exact f_draw _ | exact f_new_input _ | exact f_number _ | exact f_reckoned _ | exact f_below _ | exact f_at_most _ | exact f_equal _ | exact f_constant _ | exact c_len | exact f_known _ | exact f_is_number _ | exact f_is_gate _)); (case hm => decide); (case h2 => kernel_rfl); (case h3 => kernel_rfl); (case h4 | h5 | h6 => (intros; with_unfolding_all rfl)))
                        | ((with_reducible refine' s_ownlst ?_ ?h1 ?h2); (case h1 => first | exact .inl rfl | exact .inr rfl); (case h2 => (intros; with_unfolding_all rfl)))
                        | ((with_reducible refine' s_two ?_ ?h1 ?h2 ?h3 ?h4); (case h1 => first | exact .inl rfl | exact .inr rfl); (case h2 => first | exact .inl rfl | exact .inr rfl); (case h3 => (intros; with_unfolding_all rfl)); (case h4 => walk_at "mine swapped"))
                        | ((with_reducible refine' s_asgn ?_ ?h1 ?h2); (case h1 => first | exact .inl rfl | exact .inr rfl); (case h2 => walk_at "mine plain"))
                        | ((with_reducible refine' s_expr ?_ ?h2); (case h2 => (intros; with_unfolding_all rfl)))
                    case hz =>
                      refine' ends_cons ?ha ?hz
                      case ha =>
                        repeat' first
                          | (with_reducible refine' s_nil)
                          | (with_reducible refine' s_cons ?_ ?_)
                          | (with_reducible refine' s_ret ?_)
                          | (with_reducible refine' s_if ?_ ?_ ?_)
                          | ((with_reducible refine' s_setobj ?_ ?_ ?_ ?h2); (case h2 => (intros; with_unfolding_all rfl)))
                          | ((with_reducible refine' s_for ?ht ?_ ?_ ?h2); (case ht => walk_at "mine tgt"); (case h2 => (intros; with_unfolding_all rfl)))
                          | (with_reducible refine' e_int)
                          | (with_reducible refine' e_str)
                          | (with_reducible refine' e_bool)
                          | ((with_reducible refine' e_name2 ?h1 ?h2); (case h1 | h2 => (intros; with_unfolding_all rfl)))
                          | (with_reducible refine' t_not ?_)
                          | ((with_reducible refine' oe_c_lt ?_ ?_ ?h1); (case h1 => with_unfolding_all rfl))
                          | ((with_reducible refine' oe_c_le ?_ ?_ ?h1); (case h1 => with_unfolding_all rfl))
                          | ((with_reducible refine' oe_c_eq ?_ ?_ ?h1); (case h1 => with_unfolding_all rfl))
                          | ((with_reducible refine' ot_c_ne ?_ ?_ ?h1); (case h1 => with_unfolding_all rfl))
                          | ((with_reducible refine' ot_c_notIn ?_ ?_ ?h1); (case h1 => with_unfolding_all rfl))
                          | ((with_reducible refine' t_of ?_ ?h1); (case h1 => (intros; with_unfolding_all rfl)))
                          | (with_reducible refine' e_neg ?_)
                          | (with_reducible refine' o_b_add2 ?_ ?_)
                          | (with_reducible refine' o_b_sub ?_ ?_)
                          | (with_reducible refine' o_b_mul2 ?_ ?_)
                          | (with_reducible refine' o_b_shl ?_ ?_)
                          | ((with_reducible refine' e_subn ?_ ?h1 ?h2 ?h3); (case h1 | h2 | h3 => (intros; with_unfolding_all rfl)))
                          | ((with_reducible refine' e_sub ?_ ?_ ?h1); (case h1 => (intros; with_unfolding_all rfl)))
                          | (with_reducible refine' a_nil)
                          | ((with_reducible refine' a_cons ?_ ?_ ?h1); (case h1 => (intros; with_unfolding_all rfl)))
                          | (with_reducible refine' e_tup ?_)
                          | (with_reducible refine' e_lst ?_)
                          | (with_reducible refine' i_nil)
                          | (with_reducible refine' i_one ?_)
                          | (with_reducible refine' i_pairs ?_)
                          | (with_reducible refine' i_val ?_)
                          | ((with_reducible refine' e_comp ?ht ?_ ?_ ?_ ?h1 ?h2 ?h3 ?h4); (case ht => walk_at "mine tgt"); (case h2 => decide); (case h1 | h3 | h4 => (intros; with_unfolding_all rfl)))
                          | ((with_reducible refine' e_listzip ?hfl ?hfz ?_ ?h1 ?h2 ?h3 ?h4); (case hfl => walk_at "mine callee"); (case hfz => walk_at "mine callee"); (case h1 | h2 | h3 | h4 => (intros; with_unfolding_all rfl)))
                          | ((with_reducible refine' e_call ?hfe ?hC ?hm ?_ ?h1 ?h2); (case hfe => walk_at "mine callee"); (case hC => (first | exact c_range | exact f_draw _ | exact f_new_input _ | exact f_number _ | exact f_reckoned _ | exact f_below _ | exact f_at_most _ | exact f_equal _ | exact f_constant _ | exact c_len | exact f_known _ | exact f_is_number _ | exact f_is_gate _)); (case hm => decide); (case h1 | h2 => (intros; with_unfolding_all rfl)))
                          | ((with_reducible refine' e_append ?_ ?h1 ?h2 ?h3 ?h4); (case h1 | h2 | h3 | h4 => (intros; with_unfolding_all rfl)))
                          | ((with_reducible refine' e_appobj ?_ ?_ ?h1 ?h2); (case h1 | h2 => (intros; with_unfolding_all rfl)))
                          | ((with_reducible refine' e_meth (k := .circ) ?_ ?hC ?hm ?_ ?h1 ?h2 ?h3 ?h4 ?h5 ?h6); (case h1 => with_unfolding_all rfl); (case hC => (first | exact c_range | exact f_draw _ | exact f_new_input _ | exact f_number _ | exact f_reckoned _ | exact f_below _ | exact f_at_most _ | exact f_equal _ | exact f_constant _ | exact c_len | exact f_known _ | exact f_is_number _ | exact f_is_gate _)); (case hm => decide); (case h2 => kernel_rfl); (case h3 => kernel_rfl); (case h4 | h5 | h6 => (intros; with_unfolding_all rfl)))
                          | ((with_reducible refine' e_meth (k := .bin) ?_ ?hC ?hm ?_ ?h1 ?h2 ?h3 ?h4 ?h5 ?h6); (case h1 => with_unfolding_all rfl); (case hC => (first | exact c_range | exact f_draw _ | exact f_new_input _ | exact f_number _ | exact f_reckoned _ | exact f_below _ | exact f_at_most _ | exact f_equal _ | exact f_constant _ | exact c_len | exact f_known _ | exact f_is_number _ | exact f_is_gate _)); (case hm => decide); (case h2 => kernel_rfl); (case h3 => kernel_rfl); (case h4 | h5 | h6 => (intros; with_unfolding_all rfl)))
                          | ((with_reducible refine' s_ownlst ?_ ?h1 ?h2); (case h1 => first | exact .inl rfl | exact .inr rfl); (case h2 => (intros; with_unfolding_all rfl)))
                          | ((with_reducible refine' s_two ?_ ?h1 ?h2 ?h3 ?h4); (case h1 => first | exact .inl rfl | exact .inr rfl); (case h2 => first | exact .inl rfl | exact .inr rfl); (case h3 => (intros; with_unfolding_all rfl)); (case h4 => walk_at "mine swapped"))
                          | ((with_reducible refine' s_asgn ?_ ?h1 ?h2); (case h1 => first | exact .inl rfl | exact .inr rfl); (case h2 => walk_at "mine plain"))
                          | ((with_reducible refine' s_expr ?_ ?h2); (case h2 => (intros; with_unfolding_all rfl)))
                      case hz =>
                        refine' ends_cons ?ha ?hz
                        case ha =>
                          repeat' first
                            | (with_reducible refine' s_nil)
                            | (with_reducible refine' s_cons ?_ ?_)
                            | (with_reducible refine' s_ret ?_)
                            | (with_reducible refine' s_if ?_ ?_ ?_)
                            | ((with_reducible refine' s_setobj ?_ ?_ ?_ ?h2); (case h2 => (intros; with_unfolding_all rfl)))
                            | ((with_reducible refine' s_for ?ht ?_ ?_ ?h2); (case ht => walk_at "mine tgt"); (case h2 => (intros; with_unfolding_all rfl)))
                            | (with_reducible refine' e_int)
                            | (with_reducible refine' e_str)
                            | (with_reducible refine' e_bool)
                            | ((with_reducible refine' e_name2 ?h1 ?h2); (case h1 | h2 => (intros; with_unfolding_all rfl)))
                            | (with_reducible refine' t_not ?_)
                            | ((with_reducible refine' oe_c_lt ?_ ?_ ?h1); (case h1 => with_unfolding_all rfl))
                            | ((with_reducible refine' oe_c_le ?_ ?_ ?h1); (case h1 => with_unfolding_all rfl))
                            | ((with_reducible refine' oe_c_eq ?_ ?_ ?h1); (case h1 => with_unfolding_all rfl))
                            | ((with_reducible refine' ot_c_ne ?_ ?_ ?h1); (case h1 => with_unfolding_all rfl))
                            | ((with_reducible refine' ot_c_notIn ?_ ?_ ?h1); (case h1 => with_unfolding_all rfl))
                            | ((with_reducible refine' t_of ?_ ?h1); (case h1 => (intros; with_unfolding_all rfl)))
                            | (with_reducible refine' e_neg ?_)
                            | (with_reducible refine' o_b_add2 ?_ ?_)
                            | (with_reducible refine' o_b_sub ?_ ?_)
                            | (with_reducible refine' o_b_mul2 ?_ ?_)
                            | (with_reducible refine' o_b_shl ?_ ?_)
                            | ((with_reducible refine' e_subn ?_ ?h1 ?h2 ?h3); (case h1 | h2 | h3 => (intros; with_unfolding_all rfl)))
                            | ((with_reducible refine' e_sub ?_ ?_ ?h1); (case h1 => (intros; with_unfolding_all rfl)))
                            | (with_reducible refine' a_nil)
                            | ((with_reducible refine' a_cons ?_ ?_ ?h1); (case h1 => (intros; with_unfolding_all rfl)))
                            | (with_reducible refine' e_tup ?_)
                            | (with_reducible refine' e_lst ?_)
                            | (with_reducible refine' i_nil)
                            | (with_reducible refine' i_one ?_)
                            | (with_reducible refine' i_pairs ?_)
                            | (with_reducible refine' i_val ?_)
                            | ((with_reducible refine' e_comp ?ht ?_ ?_ ?_ ?h1 ?h2 ?h3 ?h4); (case ht => walk_at "mine tgt"); (case h2 => decide); (case h1 | h3 | h4 => (intros; with_unfolding_all rfl)))
                            | ((with_reducible refine' e_listzip ?hfl ?hfz ?_ ?h1 ?h2 ?h3 ?h4); (case hfl => walk_at "mine callee"); (case hfz => walk_at "mine callee"); (case h1 | h2 | h3 | h4 => (intros; with_unfolding_all rfl)))
                            | ((with_reducible refine' e_call ?hfe ?hC ?hm ?_ ?h1 ?h2); (case hfe => walk_at "mine callee"); (case hC => (first | exact c_range | exact f_draw _ | exact f_new_input _ | exact f_number _ | exact f_reckoned _ | exact f_below _ | exact f_at_most _ | exact f_equal _ | exact f_constant _ | exact c_len | exact f_known _ | exact f_is_number _ | exact f_is_gate _)); (case hm => decide); (case h1 | h2 => (intros; with_unfolding_all rfl)))
                            | ((with_reducible refine' e_append ?_ ?h1 ?h2 ?h3 ?h4); (case h1 | h2 | h3 | h4 => (intros; with_unfolding_all rfl)))
                            | ((with_reducible refine' e_appobj ?_ ?_ ?h1 ?h2); (case h1 | h2 => (intros; with_unfolding_all rfl)))
                            | ((with_reducible refine' e_meth (k := .circ) ?_ ?hC ?hm ?_ ?h1 ?h2 ?h3 ?h4 ?h5 ?h6); (case h1 => with_unfolding_all rfl); (case hC => (first | exact c_range | exact f_draw _ | exact f_new_input _ | exact f_number _ | exact f_reckoned _ | exact f_below _ | exact f_at_most _ | exact f_equal _ | exact f_constant _ | exact c_len | exact f_known _ | exact f_is_number _ | exact f_is_gate _)); (case hm => decide); (case h2 => kernel_rfl); (case h3 => kernel_rfl); (case h4 | h5 | h6 => (intros; with_unfolding_all rfl)))
                            | ((with_reducible refine' e_meth (k := .bin) ?_ ?hC ?hm ?_ ?h1 ?h2 ?h3 ?h4 ?h5 ?h6); (case h1 => with_unfolding_all rfl); (case hC => (first | exact c_range | exact f_draw _ | exact f_new_input _ | exact f_number _ | exact f_reckoned _ | exact f_below _ | exact f_at_most _ | exact f_equal _ | exact f_constant _ | exact c_len | exact f_known _ | exact f_is_number _ | exact f_is_gate _)); (case hm => decide); (case h2 => kernel_rfl); (case h3 => kernel_rfl); (case h4 | h5 | h6 => (intros; with_unfolding_all rfl)))
                            | ((with_reducible refine' s_ownlst ?_ ?h1 ?h2); (case h1 => first | exact .inl rfl | exact .inr rfl); (case h2 => (intros; with_unfolding_all rfl)))
                            | ((with_reducible refine' s_two ?_ ?h1 ?h2 ?h3 ?h4); (case h1 => first | exact .inl rfl | exact .inr rfl); (case h2 => first | exact .inl rfl | exact .inr rfl); (case h3 => (intros; with_unfolding_all rfl)); (case h4 => walk_at "mine swapped"))
                            | ((with_reducible refine' s_asgn ?_ ?h1 ?h2); (case h1 => first | exact .inl rfl | exact .inr rfl); (case h2 => walk_at "mine plain"))
                            | ((with_reducible refine' s_expr ?_ ?h2); (case h2 => (intros; with_unfolding_all rfl)))
                        case hz =>
                          refine' ends_cons ?ha ?hz
                          case ha =>
                            repeat' first
                              | (with_reducible refine' s_nil)
                              | (with_reducible refine' s_cons ?_ ?_)
                              | (with_reducible refine' s_ret ?_)
                              | (with_reducible refine' s_if ?_ ?_ ?_)
                              | ((with_reducible refine' s_setobj ?_ ?_ ?_ ?h2); (case h2 => (intros; with_unfolding_all rfl)))
                              | ((with_reducible refine' s_for ?ht ?_ ?_ ?h2); (case ht => walk_at "mine tgt"); (case h2 => (intros; with_unfolding_all rfl)))
                              | (with_reducible refine' e_int)
                              | (with_reducible refine' e_str)
                              | (with_reducible refine' e_bool)
                              | ((with_reducible refine' e_name2 ?h1 ?h2); (case h1 | h2 => (intros; with_unfolding_all rfl)))
                              | (with_reducible refine' t_not ?_)
                              | ((with_reducible refine' oe_c_lt ?_ ?_ ?h1); (case h1 => with_unfolding_all rfl))
                              | ((with_reducible refine' oe_c_le ?_ ?_ ?h1); (case h1 => with_unfolding_all rfl))
                              | ((with_reducible refine' oe_c_eq ?_ ?_ ?h1); (case h1 => with_unfolding_all rfl))
                              | ((with_reducible refine' ot_c_ne ?_ ?_ ?h1); (case h1 => with_unfolding_all rfl))
                              | ((with_reducible refine' ot_c_notIn ?_ ?_ ?h1); (case h1 => with_unfolding_all rfl))
                              | ((with_reducible refine' t_of ?_ ?h1); (case h1 => (intros; with_unfolding_all rfl)))
                              | (with_reducible refine' e_neg ?_)
                              | (with_reducible refine' o_b_add2 ?_ ?_)
                              | (with_reducible refine' o_b_sub ?_ ?_)
                              | (with_reducible refine' o_b_mul2 ?_ ?_)
                              | (with_reducible refine' o_b_shl ?_ ?_)
                              | ((with_reducible refine' e_subn ?_ ?h1 ?h2 ?h3); (case h1 | h2 | h3 => (intros; with_unfolding_all rfl)))
                              | ((with_reducible refine' e_sub ?_ ?_ ?h1); (case h1 => (intros; with_unfolding_all rfl)))
                              | (with_reducible refine' a_nil)
                              | ((with_reducible refine' a_cons ?_ ?_ ?h1); (case h1 => (intros; with_unfolding_all rfl)))
                              | (with_reducible refine' e_tup ?_)
                              | (with_reducible refine' e_lst ?_)
                              | (with_reducible refine' i_nil)
                              | (with_reducible refine' i_one ?_)
                              | (with_reducible refine' i_pairs ?_)
                              | (with_reducible refine' i_val ?_)
                              | ((with_reducible refine' e_comp ?ht ?_ ?_ ?_ ?h1 ?h2 ?h3 ?h4); (case ht => walk_at "mine tgt"); (case h2 => decide); (case h1 | h3 | h4 => (intros; with_unfolding_all rfl)))
                              | ((with_reducible refine' e_listzip ?hfl ?hfz ?_ ?h1 ?h2 ?h3 ?h4); (case hfl => walk_at "mine callee"); (case hfz => walk_at "mine callee"); (case h1 | h2 | h3 | h4 => (intros; with_unfolding_all rfl)))
                              | ((with_reducible refine' e_call ?hfe ?hC ?hm ?_ ?h1 ?h2); (case hfe => walk_at "mine callee"); (case hC => (first | exact c_range | exact f_draw _ | exact f_new_input _ | exact f_number _ | exact f_reckoned _ | exact f_below _ | exact f_at_most _ | exact f_equal _ | exact f_constant _ | exact c_len | exact f_known _ | exact f_is_number _ | exact f_is_gate _)); (case hm => decide); (case h1 | h2 => (intros; with_unfolding_all rfl)))
                              | ((with_reducible refine' e_append ?_ ?h1 ?h2 ?h3 ?h4); (case h1 | h2 | h3 | h4 => (intros; with_unfolding_all rfl)))
                              | ((with_reducible refine' e_appobj ?_ ?_ ?h1 ?h2); (case h1 | h2 => (intros; with_unfolding_all rfl)))
                              | ((with_reducible refine' e_meth (k := .circ) ?_ ?hC ?hm ?_ ?h1 ?h2 ?h3 ?h4 ?h5 ?h6); (case h1 => with_unfolding_all rfl); (case hC => (first | exact c_range | exact f_draw _ | exact f_new_input _ | exact f_number _ | exact f_reckoned _ | exact f_below _ | exact f_at_most _ | exact f_equal _ | exact f_constant _ | exact c_len | exact f_known _ | exact f_is_number _ | exact f_is_gate _)); (case hm => decide); (case h2 => kernel_rfl); (case h3 => kernel_rfl); (case h4 | h5 | h6 => (intros; with_unfolding_all rfl)))
                              | ((with_reducible refine' e_meth (k := .bin) ?_ ?hC ?hm ?_ ?h1 ?h2 ?h3 ?h4 ?h5 ?h6); (case h1 => with_unfolding_all rfl); (case hC => (first | exact c_range | exact f_draw _ | exact f_new_input _ | exact f_number _ | exact f_reckoned _ | exact f_below _ | exact f_at_most _ | exact f_equal _ | exact f_constant _ | exact c_len | exact f_known _ | exact f_is_number _ | exact f_is_gate _)); (case hm => decide); (case h2 => kernel_rfl); (case h3 => kernel_rfl); (case h4 | h5 | h6 => (intros; with_unfolding_all rfl)))
                              | ((with_reducible refine' s_ownlst ?_ ?h1 ?h2); (case h1 => first | exact .inl rfl | exact .inr rfl); (case h2 => (intros; with_unfolding_all rfl)))
                              | ((with_reducible refine' s_two ?_ ?h1 ?h2 ?h3 ?h4); (case h1 => first | exact .inl rfl | exact .inr rfl); (case h2 => first | exact .inl rfl | exact .inr rfl); (case h3 => (intros; with_unfolding_all rfl)); (case h4 => walk_at "mine swapped"))
                              | ((with_reducible refine' s_asgn ?_ ?h1 ?h2); (case h1 => first | exact .inl rfl | exact .inr rfl); (case h2 => walk_at "mine plain"))
                              | ((with_reducible refine' s_expr ?_ ?h2); (case h2 => (intros; with_unfolding_all rfl)))
                          case hz =>
                            refine' ends_still hon' Mid ?hz
                            case hz =>
                              intro c2
                              refine' ⟨_, ?hE2, ?hU2⟩
                              case hE2 =>
                                refine' ends_cons ?ha ?hz
                                case ha =>
                                  repeat' first
                                    | (with_reducible refine' s_nil)
                                    | (with_reducible refine' s_cons ?_ ?_)
                                    | (with_reducible refine' s_ret ?_)
                                    | (with_reducible refine' s_if ?_ ?_ ?_)
                                    | ((with_reducible refine' s_setobj ?_ ?_ ?_ ?h2); (case h2 => (intros; with_unfolding_all rfl)))
                                    | ((with_reducible refine' s_for ?ht ?_ ?_ ?h2); (case ht => walk_at "mine tgt"); (case h2 => (intros; with_unfolding_all rfl)))
                                    | (with_reducible refine' e_int)
                                    | (with_reducible refine' e_str)
                                    | (with_reducible refine' e_bool)
                                    | ((with_reducible refine' e_name2 ?h1 ?h2); (case h1 | h2 => (intros; with_unfolding_all rfl)))
                                    | (with_reducible refine' t_not ?_)
                                    | ((with_reducible refine' oe_c_lt ?_ ?_ ?h1); (case h1 => with_unfolding_all rfl))
                                    | ((with_reducible refine' oe_c_le ?_ ?_ ?h1); (case h1 => with_unfolding_all rfl))
                                    | ((with_reducible refine' oe_c_eq ?_ ?_ ?h1); (case h1 => with_unfolding_all rfl))
                                    | ((with_reducible refine' ot_c_ne ?_ ?_ ?h1); (case h1 => with_unfolding_all rfl))
                                    | ((with_reducible refine' ot_c_notIn ?_ ?_ ?h1); (case h1 => with_unfolding_all rfl))
                                    | ((with_reducible refine' t_of ?_ ?h1); (case h1 => (intros; with_unfolding_all rfl)))
                                    | (with_reducible refine' e_neg ?_)
                                    | (with_reducible refine' o_b_add2 ?_ ?_)
                                    | (with_reducible refine' o_b_sub ?_ ?_)
                                    | (with_reducible refine' o_b_mul2 ?_ ?_)
                                    | (with_reducible refine' o_b_shl ?_ ?_)
                                    | ((with_reducible refine' e_subn ?_ ?h1 ?h2 ?h3); (case h1 | h2 | h3 => (intros; with_unfolding_all rfl)))
                                    | ((with_reducible refine' e_sub ?_ ?_ ?h1); (case h1 => (intros; with_unfolding_all rfl)))
                                    | (with_reducible refine' a_nil)
                                    | ((with_reducible refine' a_cons ?_ ?_ ?h1); (case h1 => (intros; with_unfolding_all rfl)))
                                    | (with_reducible refine' e_tup ?_)
                                    | (with_reducible refine' e_lst ?_)
                                    | (with_reducible refine' i_nil)
                                    | (with_reducible refine' i_one ?_)
                                    | (with_reducible refine' i_pairs ?_)
                                    | (with_reducible refine' i_val ?_)
                                    | ((with_reducible refine' e_comp ?ht ?_ ?_ ?_ ?h1 ?h2 ?h3 ?h4); (case ht => walk_at "mine tgt"); (case h2 => decide); (case h1 | h3 | h4 => (intros; with_unfolding_all rfl)))
                                    | ((with_reducible refine' e_listzip ?hfl ?hfz ?_ ?h1 ?h2 ?h3 ?h4); (case hfl => walk_at "mine callee"); (case hfz => walk_at "mine callee"); (case h1 | h2 | h3 | h4 => (intros; with_unfolding_all rfl)))
                                    | ((with_reducible refine' e_call ?hfe ?hC ?hm ?_ ?h1 ?h2); (case hfe => walk_at "mine callee"); (case hC => (first | exact c_range | exact f_draw _ | exact f_new_input _ | exact f_number _ | exact f_reckoned _ | exact f_below _ | exact f_at_most _ | exact f_equal _ | exact f_constant _ | exact c_len | exact f_known _ | exact f_is_number _ | exact f_is_gate _)); (case hm => decide); (case h1 | h2 => (intros; with_unfolding_all rfl)))
                                    | ((with_reducible refine' e_append ?_ ?h1 ?h2 ?h3 ?h4); (case h1 | h2 | h3 | h4 => (intros; with_unfolding_all rfl)))
                                    | ((with_reducible refine' e_appobj ?_ ?_ ?h1 ?h2); (case h1 | h2 => (intros; with_unfolding_all rfl)))
                                    | ((with_reducible refine' e_meth (k := .circ) ?_ ?hC ?hm ?_ ?h1 ?h2 ?h3 ?h4 ?h5 ?h6); (case h1 => with_unfolding_all rfl); (case hC => (first | exact c_range | exact f_draw _ | exact f_new_input _ | exact f_number _ | exact f_reckoned _ | exact f_below _ | exact f_at_most _ | exact f_equal _ | exact f_constant _ | exact c_len | exact f_known _ | exact f_is_number _ | exact f_is_gate _)); (case hm => decide); (case h2 => kernel_rfl); (case h3 => kernel_rfl); (case h4 | h5 | h6 => (intros; with_unfolding_all rfl)))
                                    | ((with_reducible refine' e_meth (k := .bin) ?_ ?hC ?hm ?_ ?h1 ?h2 ?h3 ?h4 ?h5 ?h6); (case h1 => with_unfolding_all rfl); (case hC => (first | exact c_range | exact f_draw _ | exact f_new_input _ | exact f_number _ | exact f_reckoned _ | exact f_below _ | exact f_at_most _ | exact f_equal _ | exact f_constant _ | exact c_len | exact f_known _ | exact f_is_number _ | exact f_is_gate _)); (case hm => decide); (case h2 => kernel_rfl); (case h3 => kernel_rfl); (case h4 | h5 | h6 => (intros; with_unfolding_all rfl)))
                                    | ((with_reducible refine' s_ownlst ?_ ?h1 ?h2); (case h1 => first | exact .inl rfl | exact .inr rfl); (case h2 => (intros; with_unfolding_all rfl)))
                                    | ((with_reducible refine' s_two ?_ ?h1 ?h2 ?h3 ?h4); (case h1 => first | exact .inl rfl | exact .inr rfl); (case h2 => first | exact .inl rfl | exact .inr rfl); (case h3 => (intros; with_unfolding_all rfl)); (case h4 => walk_at "mine swapped"))
                                    | ((with_reducible refine' s_asgn ?_ ?h1 ?h2); (case h1 => first | exact .inl rfl | exact .inr rfl); (case h2 => walk_at "mine plain"))
                                    | ((with_reducible refine' s_expr ?_ ?h2); (case h2 => (intros; with_unfolding_all rfl)))
                                case hz =>
                                  refine' ends_cons ?ha ?hz
                                  case ha =>
                                    repeat' first
                                      | (with_reducible refine' s_nil)
                                      | (with_reducible refine' s_cons ?_ ?_)
                                      | (with_reducible refine' s_ret ?_)
                                      | (with_reducible refine' s_if ?_ ?_ ?_)
                                      | ((with_reducible refine' s_setobj ?_ ?_ ?_ ?h2); (case h2 => (intros; with_unfolding_all rfl)))
                                      | ((with_reducible refine' s_for ?ht ?_ ?_ ?h2); (case ht => walk_at "mine tgt"); (case h2 => (intros; with_unfolding_all rfl)))
                                      | (with_reducible refine' e_int)
                                      | (with_reducible refine' e_str)
                                      | (with_reducible refine' e_bool)
                                      | ((with_reducible refine' e_name2 ?h1 ?h2); (case h1 | h2 => (intros; with_unfolding_all rfl)))
                                      | (with_reducible refine' t_not ?_)
                                      | ((with_reducible refine' oe_c_lt ?_ ?_ ?h1); (case h1 => with_unfolding_all rfl))
                                      | ((with_reducible refine' oe_c_le ?_ ?_ ?h1); (case h1 => with_unfolding_all rfl))
                                      | ((with_reducible refine' oe_c_eq ?_ ?_ ?h1); (case h1 => with_unfolding_all rfl))
                                      | ((with_reducible refine' ot_c_ne ?_ ?_ ?h1); (case h1 => with_unfolding_all rfl))
                                      | ((with_reducible refine' ot_c_notIn ?_ ?_ ?h1); (case h1 => with_unfolding_all rfl))
                                      | ((with_reducible refine' t_of ?_ ?h1); (case h1 => (intros; with_unfolding_all rfl)))
                                      | (with_reducible refine' e_neg ?_)
                                      | (with_reducible refine' o_b_add2 ?_ ?_)
                                      | (with_reducible refine' o_b_sub ?_ ?_)
                                      | (with_reducible refine' o_b_mul2 ?_ ?_)
                                      | (with_reducible refine' o_b_shl ?_ ?_)
                                      | ((with_reducible refine' e_subn ?_ ?h1 ?h2 ?h3); (case h1 | h2 | h3 => (intros; with_unfolding_all rfl)))
                                      | ((with_reducible refine' e_sub ?_ ?_ ?h1); (case h1 => (intros; with_unfolding_all rfl)))
                                      | (with_reducible refine' a_nil)
                                      | ((with_reducible refine' a_cons ?_ ?_ ?h1); (case h1 => (intros; with_unfolding_all rfl)))
                                      | (with_reducible refine' e_tup ?_)
                                      | (with_reducible refine' e_lst ?_)
                                      | (with_reducible refine' i_nil)
                                      | (with_reducible refine' i_one ?_)
                                      | (with_reducible refine' i_pairs ?_)
                                      | (with_reducible refine' i_val ?_)
                                      | ((with_reducible refine' e_comp ?ht ?_ ?_ ?_ ?h1 ?h2 ?h3 ?h4); (case ht => walk_at "mine tgt"); (case h2 => decide); (case h1 | h3 | h4 => (intros; with_unfolding_all rfl)))
                                      | ((with_reducible refine' e_listzip ?hfl ?hfz ?_ ?h1 ?h2 ?h3 ?h4); (case hfl => walk_at "mine callee"); (case hfz => walk_at "mine callee"); (case h1 | h2 | h3 | h4 => (intros; with_unfolding_all rfl)))
                                      | ((with_reducible refine' e_call ?hfe ?hC ?hm ?_ ?h1 ?h2); (case hfe => walk_at "mine callee"); (case hC => (first | exact c_range | exact f_draw _ | exact f_new_input _ | exact f_number _ | exact f_reckoned _ | exact f_below _ | exact f_at_most _ | exact f_equal _ | exact f_constant _ | exact c_len | exact f_known _ | exact f_is_number _ | exact f_is_gate _)); (case hm => decide); (case h1 | h2 => (intros; with_unfolding_all rfl)))
                                      | ((with_reducible refine' e_append ?_ ?h1 ?h2 ?h3 ?h4); (case h1 | h2 | h3 | h4 => (intros; with_unfolding_all rfl)))
                                      | ((with_reducible refine' e_appobj ?_ ?_ ?h1 ?h2); (case h1 | h2 => (intros; with_unfolding_all rfl)))
                                      | ((with_reducible refine' e_meth (k := .circ) ?_ ?hC ?hm ?_ ?h1 ?h2 ?h3 ?h4 ?h5 ?h6); (case h1 => with_unfolding_all rfl); (case hC => (first | exact c_range | exact f_draw _ | exact f_new_input _ | exact f_number _ | exact f_reckoned _ | exact f_below _ | exact f_at_most _ | exact f_equal _ | exact f_constant _ | exact c_len | exact f_known _ | exact f_is_number _ | exact f_is_gate _)); (case hm => decide); (case h2 => kernel_rfl); (case h3 => kernel_rfl); (case h4 | h5 | h6 => (intros; with_unfolding_all rfl)))
                                      | ((with_reducible refine' e_meth (k := .bin) ?_ ?hC ?hm ?_ ?h1 ?h2 ?h3 ?h4 ?h5 ?h6); (case h1 => with_unfolding_all rfl); (case hC => (first | exact c_range | exact f_draw _ | exact f_new_input _ | exact f_number _ | exact f_reckoned _ | exact f_below _ | exact f_at_most _ | exact f_equal _ | exact f_constant _ | exact c_len | exact f_known _ | exact f_is_number _ | exact f_is_gate _)); (case hm => decide); (case h2 => kernel_rfl); (case h3 => kernel_rfl); (case h4 | h5 | h6 => (intros; with_unfolding_all rfl)))
                                      | ((with_reducible refine' s_ownlst ?_ ?h1 ?h2); (case h1 => first | exact .inl rfl | exact .inr rfl); (case h2 => (intros; with_unfolding_all rfl)))
                                      | ((with_reducible refine' s_two ?_ ?h1 ?h2 ?h3 ?h4); (case h1 => first | exact .inl rfl | exact .inr rfl); (case h2 => first | exact .inl rfl | exact .inr rfl); (case h3 => (intros; with_unfolding_all rfl)); (case h4 => walk_at "mine swapped"))
                                      | ((with_reducible refine' s_asgn ?_ ?h1 ?h2); (case h1 => first | exact .inl rfl | exact .inr rfl); (case h2 => walk_at "mine plain"))
                                      | ((with_reducible refine' s_expr ?_ ?h2); (case h2 => (intros; with_unfolding_all rfl)))
                                  case hz =>
                                    refine' ends_cons ?ha ?hz
                                    case ha =>
                                      refine' s_asgn ?he ?hp1 ?hp2
                                      case he =>
                                        repeat' first
                                          | (with_reducible refine' s_nil)
                                          | (with_reducible refine' s_cons ?_ ?_)
                                          | (with_reducible refine' s_ret ?_)
                                          | (with_reducible refine' s_if ?_ ?_ ?_)
                                          | ((with_reducible refine' s_setobj ?_ ?_ ?_ ?h2); (case h2 => (intros; with_unfolding_all rfl)))
                                          | ((with_reducible refine' s_for ?ht ?_ ?_ ?h2); (case ht => walk_at "mine tgt"); (case h2 => (intros; with_unfolding_all rfl)))
                                          | (with_reducible refine' e_int)
                                          | (with_reducible refine' e_str)
                                          | (with_reducible refine' e_bool)
                                          | ((with_reducible refine' e_name2 ?h1 ?h2); (case h1 | h2 => (intros; with_unfolding_all rfl)))
                                          | (with_reducible refine' t_not ?_)
                                          | ((with_reducible refine' oe_c_lt ?_ ?_ ?h1); (case h1 => with_unfolding_all rfl))
                                          | ((with_reducible refine' oe_c_le ?_ ?_ ?h1); (case h1 => with_unfolding_all rfl))
                                          | ((with_reducible refine' oe_c_eq ?_ ?_ ?h1); (case h1 => with_unfolding_all rfl))
                                          | ((with_reducible refine' ot_c_ne ?_ ?_ ?h1); (case h1 => with_unfolding_all rfl))
                                          | ((with_reducible refine' ot_c_notIn ?_ ?_ ?h1); (case h1 => with_unfolding_all rfl))
                                          | ((with_reducible refine' t_of ?_ ?h1); (case h1 => (intros; with_unfolding_all rfl)))
                                          | (with_reducible refine' e_neg ?_)
                                          | (with_reducible refine' o_b_add2 ?_ ?_)
                                          | (with_reducible refine' o_b_sub ?_ ?_)
                                          | (with_reducible refine' o_b_mul2 ?_ ?_)
                                          | (with_reducible refine' o_b_shl ?_ ?_)
                                          | ((with_reducible refine' e_subn ?_ ?h1 ?h2 ?h3); (case h1 | h2 | h3 => (intros; with_unfolding_all rfl)))
                                          | ((with_reducible refine' e_sub ?_ ?_ ?h1); (case h1 => (intros; with_unfolding_all rfl)))
                                          | (with_reducible refine' a_nil)
                                          | ((with_reducible refine' a_cons ?_ ?_ ?h1); (case h1 => (intros; with_unfolding_all rfl)))
                                          | (with_reducible refine' e_tup ?_)
                                          | (with_reducible refine' e_lst ?_)
                                          | (with_reducible refine' i_nil)
                                          | (with_reducible refine' i_one ?_)
                                          | (with_reducible refine' i_pairs ?_)
                                          | (with_reducible refine' i_val ?_)
                                          | ((with_reducible refine' e_comp ?ht ?_ ?_ ?_ ?h1 ?h2 ?h3 ?h4); (case ht => walk_at "mine tgt"); (case h2 => decide); (case h1 | h3 | h4 => (intros; with_unfolding_all rfl)))
                                          | ((with_reducible refine' e_listzip ?hfl ?hfz ?_ ?h1 ?h2 ?h3 ?h4); (case hfl => walk_at "mine callee"); (case hfz => walk_at "mine callee"); (case h1 | h2 | h3 | h4 => (intros; with_unfolding_all rfl)))
                                          | ((with_reducible refine' e_call ?hfe ?hC ?hm ?_ ?h1 ?h2); (case hfe => walk_at "mine callee"); (case hC => (first | exact c_range | exact f_draw _ | exact f_new_input _ | exact f_number _ | exact f_reckoned _ | exact f_below _ | exact f_at_most _ | exact f_equal _ | exact f_constant _ | exact c_len | exact f_known _ | exact f_is_number _ | exact f_is_gate _)); (case hm => decide); (case h1 | h2 => (intros; with_unfolding_all rfl)))
                                          | ((with_reducible refine' e_append ?_ ?h1 ?h2 ?h3 ?h4); (case h1 | h2 | h3 | h4 => (intros; with_unfolding_all rfl)))
                                          | ((with_reducible refine' e_appobj ?_ ?_ ?h1 ?h2); (case h1 | h2 => (intros; with_unfolding_all rfl)))
                                          | ((with_reducible refine' e_meth (k := .circ) ?_ ?hC ?hm ?_ ?h1 ?h2 ?h3 ?h4 ?h5 ?h6); (case h1 => with_unfolding_all rfl); (case hC => (first | exact c_range | exact f_draw _ | exact f_new_input _ | exact f_number _ | exact f_reckoned _ | exact f_below _ | exact f_at_most _ | exact f_equal _ | exact f_constant _ | exact c_len | exact f_known _ | exact f_is_number _ | exact f_is_gate _)); (case hm => decide); (case h2 => kernel_rfl); (case h3 => kernel_rfl); (case h4 | h5 | h6 => (intros; with_unfolding_all rfl)))
                                          | ((with_reducible refine' e_meth (k := .bin) ?_ ?hC ?hm ?_ ?h1 ?h2 ?h3 ?h4 ?h5 ?h6); (case h1 => with_unfolding_all rfl); (case hC => (first | exact c_range | exact f_draw _ | exact f_new_input _ | exact f_number _ | exact f_reckoned _ | exact f_below _ | exact f_at_most _ | exact f_equal _ | exact f_constant _ | exact c_len | exact f_known _ | exact f_is_number _ | exact f_is_gate _)); (case hm => decide); (case h2 => kernel_rfl); (case h3 => kernel_rfl); (case h4 | h5 | h6 => (intros; with_unfolding_all rfl)))
                                          | ((with_reducible refine' s_ownlst ?_ ?h1 ?h2); (case h1 => first | exact .inl rfl | exact .inr rfl); (case h2 => (intros; with_unfolding_all rfl)))
                                          | ((with_reducible refine' s_two ?_ ?h1 ?h2 ?h3 ?h4); (case h1 => first | exact .inl rfl | exact .inr rfl); (case h2 => first | exact .inl rfl | exact .inr rfl); (case h3 => (intros; with_unfolding_all rfl)); (case h4 => walk_at "mine swapped"))
                                          | ((with_reducible refine' s_asgn ?_ ?h1 ?h2); (case h1 => first | exact .inl rfl | exact .inr rfl); (case h2 => walk_at "mine plain"))
                                          | ((with_reducible refine' s_expr ?_ ?h2); (case h2 => (intros; with_unfolding_all rfl)))
                                      case hp1 => exact .inr rfl
                                      case hp2 => walk_at "mine plain"
                                    case hz =>
                                      refine' ends_last ?ha
                                      case ha =>
                                        repeat' first
                                          | (with_reducible refine' s_nil)
                                          | (with_reducible refine' s_cons ?_ ?_)
                                          | (with_reducible refine' s_ret ?_)
                                          | (with_reducible refine' s_if ?_ ?_ ?_)
                                          | ((with_reducible refine' s_setobj ?_ ?_ ?_ ?h2); (case h2 => (intros; with_unfolding_all rfl)))
                                          | ((with_reducible refine' s_for ?ht ?_ ?_ ?h2); (case ht => walk_at "mine tgt"); (case h2 => (intros; with_unfolding_all rfl)))
                                          | (with_reducible refine' e_int)
                                          | (with_reducible refine' e_str)
                                          | (with_reducible refine' e_bool)
                                          | ((with_reducible refine' e_name2 ?h1 ?h2); (case h1 | h2 => (intros; with_unfolding_all rfl)))
                                          | (with_reducible refine' t_not ?_)
                                          | ((with_reducible refine' oe_c_lt ?_ ?_ ?h1); (case h1 => with_unfolding_all rfl))
                                          | ((with_reducible refine' oe_c_le ?_ ?_ ?h1); (case h1 => with_unfolding_all rfl))
                                          | ((with_reducible refine' oe_c_eq ?_ ?_ ?h1); (case h1 => with_unfolding_all rfl))
                                          | ((with_reducible refine' ot_c_ne ?_ ?_ ?h1); (case h1 => with_unfolding_all rfl))
                                          | ((with_reducible refine' ot_c_notIn ?_ ?_ ?h1); (case h1 => with_unfolding_all rfl))
                                          | ((with_reducible refine' t_of ?_ ?h1); (case h1 => (intros; with_unfolding_all rfl)))
                                          | (with_reducible refine' e_neg ?_)
                                          | (with_reducible refine' o_b_add2 ?_ ?_)
                                          | (with_reducible refine' o_b_sub ?_ ?_)
                                          | (with_reducible refine' o_b_mul2 ?_ ?_)
                                          | (with_reducible refine' o_b_shl ?_ ?_)
                                          | ((with_reducible refine' e_subn ?_ ?h1 ?h2 ?h3); (case h1 | h2 | h3 => (intros; with_unfolding_all rfl)))
                                          | ((with_reducible refine' e_sub ?_ ?_ ?h1); (case h1 => (intros; with_unfolding_all rfl)))
                                          | (with_reducible refine' a_nil)
                                          | ((with_reducible refine' a_cons ?_ ?_ ?h1); (case h1 => (intros; with_unfolding_all rfl)))
                                          | (with_reducible refine' e_tup ?_)
                                          | (with_reducible refine' e_lst ?_)
                                          | (with_reducible refine' i_nil)
                                          | (with_reducible refine' i_one ?_)
                                          | (with_reducible refine' i_pairs ?_)
                                          | (with_reducible refine' i_val ?_)
                                          | ((with_reducible refine' e_comp ?ht ?_ ?_ ?_ ?h1 ?h2 ?h3 ?h4); (case ht => walk_at "mine tgt"); (case h2 => decide); (case h1 | h3 | h4 => (intros; with_unfolding_all rfl)))
                                          | ((with_reducible refine' e_listzip ?hfl ?hfz ?_ ?h1 ?h2 ?h3 ?h4); (case hfl => walk_at "mine callee"); (case hfz => walk_at "mine callee"); (case h1 | h2 | h3 | h4 => (intros; with_unfolding_all rfl)))
                                          | ((with_reducible refine' e_call ?hfe ?hC ?hm ?_ ?h1 ?h2); (case hfe => walk_at "mine callee"); (case hC => (first | exact c_range | exact f_draw _ | exact f_new_input _ | exact f_number _ | exact f_reckoned _ | exact f_below _ | exact f_at_most _ | exact f_equal _ | exact f_constant _ | exact c_len | exact f_known _ | exact f_is_number _ | exact f_is_gate _)); (case hm => decide); (case h1 | h2 => (intros; with_unfolding_all rfl)))
                                          | ((with_reducible refine' e_append ?_ ?h1 ?h2 ?h3 ?h4); (case h1 | h2 | h3 | h4 => (intros; with_unfolding_all rfl)))
                                          | ((with_reducible refine' e_appobj ?_ ?_ ?h1 ?h2); (case h1 | h2 => (intros; with_unfolding_all rfl)))
                                          | ((with_reducible refine' e_meth (k := .circ) ?_ ?hC ?hm ?_ ?h1 ?h2 ?h3 ?h4 ?h5 ?h6); (case h1 => with_unfolding_all rfl); (case hC => (first | exact c_range | exact f_draw _ | exact f_new_input _ | exact f_number _ | exact f_reckoned _ | exact f_below _ | exact f_at_most _ | exact f_equal _ | exact f_constant _ | exact c_len | exact f_known _ | exact f_is_number _ | exact f_is_gate _)); (case hm => decide); (case h2 => kernel_rfl); (case h3 => kernel_rfl); (case h4 | h5 | h6 => (intros; with_unfolding_all rfl)))
                                          | ((with_reducible refine' e_meth (k := .bin) ?_ ?hC ?hm ?_ ?h1 ?h2 ?h3 ?h4 ?h5 ?h6); (case h1 => with_unfolding_all rfl); (case hC => (first | exact c_range | exact f_draw _ | exact f_new_input _ | exact f_number _ | exact f_reckoned _ | exact f_below _ | exact f_at_most _ | exact f_equal _ | exact f_constant _ | exact c_len | exact f_known _ | exact f_is_number _ | exact f_is_gate _)); (case hm => decide); (case h2 => kernel_rfl); (case h3 => kernel_rfl); (case h4 | h5 | h6 => (intros; with_unfolding_all rfl)))
                                          | ((with_reducible refine' s_ownlst ?_ ?h1 ?h2); (case h1 => first | exact .inl rfl | exact .inr rfl); (case h2 => (intros; with_unfolding_all rfl)))
                                          | ((with_reducible refine' s_two ?_ ?h1 ?h2 ?h3 ?h4); (case h1 => first | exact .inl rfl | exact .inr rfl); (case h2 => first | exact .inl rfl | exact .inr rfl); (case h3 => (intros; with_unfolding_all rfl)); (case h4 => walk_at "mine swapped"))
                                          | ((with_reducible refine' s_asgn ?_ ?h1 ?h2); (case h1 => first | exact .inl rfl | exact .inr rfl); (case h2 => walk_at "mine plain"))
                                          | ((with_reducible refine' s_expr ?_ ?h2); (case h2 => (intros; with_unfolding_all rfl)))
                              case hU2 =>
                                rintro st ⟨m, L, ad, g, a, b, x1, x2, x3, rfl, hLw, hLg, hLo, hLt, hW, hnums, hnl, ha, hb, hx1, hx2, hx3, q1, q2, q3, hcap, hdone⟩
                                have hLo' : L (Str.ofString "one") = some (V.tup [V.tup (a.map V.int), V.lst ((List.range (2 ^ m)).map fun row => V.int (num g row a))]) := by rw [hLo]; unfold numV dues; rw [List.map_map]; rfl
                                have hLt' : L (Str.ofString "other") = some (V.tup [V.tup (b.map V.int), V.lst ((List.range (2 ^ m)).map fun row => V.int (num g row b))]) := by rw [hLt]; unfold numV dues; rw [List.map_map]; rfl
                                clear hLo hLt
                                replace hnums : Hide _ := hnums
                                have hdn := hdone
                                replace hdn : Hide _ := hdn
                                clear hdone
                                replace q1 : Hide _ := q1
                                replace q2 : Hide _ := q2
                                replace q3 : Hide _ := q3
                                have m3 := hW.m3
                                have hIg := hW.inv
                                replace hIg : Hide _ := hIg
                                walk_at "mine vs"
                                refine ⟨m, rfl, hW, hcap, ?_⟩
                                walk_at "mine vs"
                                refine ⟨_, rfl, _, rfl, ?_⟩
                                dsimp only
                                rw [zip_range]
                                refine ⟨by simp, by show 2 ≤ 16777216; lia, ?_⟩
                                walk_at "mine vs"
                                refine ⟨hdn, ?_⟩
                                refine compT_fm g.numbers It.one (fun _ => none) (fun st => ∃ L' : Str → Option V, st = ⟨L', .none, g⟩ ∧ L' (Str.ofString "known") = some (.lst (knownV m g))) ?_ ?_ _ ?_
                                · rintro v hv acc st rec ⟨L', rfl, hk⟩ hrec
                                  obtain ⟨ns, rfl, hns, hl⟩ := (show ∀ v ∈ g.numbers, Right m 12 g v from hnums) v hv
                                  have hK : rec acc ((St.mk L' .none g).set (Str.ofString "late") (numV m g ns)) := by
                                    have := hrec ((St.mk L' .none g).set (Str.ofString "late") (numV m g ns)) ⟨_, rfl, by simp (decide := true) only [v_set_loc, if_false]; exact hk⟩
                                    simpa using this
                                  replace hrec : Hide _ := hrec
                                  unfold numV at hK ⊢
                                  replace hK : Hide _ := hK
                                  dsimp only
                                  walk_at "mine vs"
                                  refine ⟨_, rfl, _, rfl, m, g, ns, rfl, hIg, m3, hns, by lia, ?_⟩
                                  exact hK
                                · rintro st ⟨L', rfl, hk⟩
                                  have hnil : g.numbers.filterMap (fun _ => (none : Option V)) = [] := by simp
                                  rw [hnil]
                                  refine ⟨[], [], rfl, rfl, ?_⟩
                                  rw [decide_eq_true rfl]
                                  simp only [Bool.not_true, v_onBool]
                                  walk_at "mine vc"
                                  refine ⟨(List.range (2 ^ m)).map fun row => (.int (num g row a), .int (num g row b)), rfl, ?_⟩
                                  rw [List.map_map]
                                  refine compT_map (List.range (2 ^ m)) _ (fun row => .bool (decide (num g row a < num g row b))) (fun st => st.g = g) ?_ ?_ _ rfl
                                  · rintro row hrow acc st rec hK hrec
                                    replace hrec : Hide _ := hrec
                                    show (fun st1 => _) ((St.set st (Str.ofString "a") (V.int (num g row a))).set (Str.ofString "b") (V.int (num g row b)))
                                    walk_at "mine vs"
                                    exact hrec _ hK
                                  · rintro st1 hst1
                                    refine ⟨(List.range (2 ^ m)).map fun row => (.int (num g row a), .int (num g row b)), rfl, ?_⟩
                                    rw [List.map_map]
                                    refine compT_map (List.range (2 ^ m)) _ (fun row => .bool (decide (num g row a ≤ num g row b))) (fun st => st.g = g) ?_ ?_ _ hst1
                                    · rintro row hrow acc st rec hK hrec
                                      replace hrec : Hide _ := hrec
                                      show (fun st1 => _) ((St.set st (Str.ofString "a") (V.int (num g row a))).set (Str.ofString "b") (V.int (num g row b)))
                                      walk_at "mine vs"
                                      exact hrec _ hK
                                    · rintro st2 hst2
                                      refine ⟨(List.range (2 ^ m)).map fun row => (.int (num g row a), .int (num g row b)), rfl, ?_⟩
                                      rw [List.map_map]
                                      refine compT_map (List.range (2 ^ m)) _ (fun row => .bool (decide (num g row a = num g row b))) (fun st => st.g = g) ?_ ?_ _ hst2
                                      · rintro row hrow acc st rec hK hrec
                                        replace hrec : Hide _ := hrec
                                        show (fun st1 => _) ((St.set st (Str.ofString "a") (V.int (num g row a))).set (Str.ofString "b") (V.int (num g row b)))
                                        walk_at "mine vs"
                                        exact hrec _ hK
                                      · rintro st3 hst3
                                        have t1 : (List.range (2 ^ m)).map (fun row => V.bool (decide (num g row a < num g row b))) = truthsV m g x1 := by
                                          unfold truthsV; exact List.map_congr_left fun row _ => by rw [(show ∀ row, _ from q1) row]
                                        have t2 : (List.range (2 ^ m)).map (fun row => V.bool (decide (num g row a ≤ num g row b))) = truthsV m g x2 := by
                                          unfold truthsV; exact List.map_congr_left fun row _ => by rw [(show ∀ row, _ from q2) row]
                                        have t3 : (List.range (2 ^ m)).map (fun row => V.bool (decide (num g row a = num g row b))) = truthsV m g x3 := by
                                          unfold truthsV; exact List.map_congr_left fun row _ => by rw [(show ∀ row, _ from q3) row]
                                        rw [hst3, t1, t2, t3]
                                        refine ⟨by show 3 ≤ 16777216; lia, ?_⟩
                                        walk_at "mine vc"
                                        change compT _ _ _ (List.map (fun i => It.one (V.int i)) (rngL 0 ((3 : Nat) : Int) 1)) _ _ _
                                        rw [rng_nat]
                                        refine compT_fm (List.range 3) _ (fun _ => none) (fun st => ∃ L' : Str → Option V, st = ⟨L', .lst (Str.ofString "gates") ad [.int x1, .int x2, .int x3] false, g⟩ ∧ L' (Str.ofString "known") = some (.lst (knownV m g)) ∧ L' (Str.ofString "gates") = none ∧
                                          L' (Str.ofString "dues") = some (.lst [.lst (truthsV m g x1), .lst (truthsV m g x2), .lst (truthsV m g x3)])) ?_ ?_ _ ?_
                                        · rintro k hk acc st rec ⟨L', rfl, h1, h2, h3⟩ hrec
                                          have hK : rec acc ((St.mk L' (.lst (Str.ofString "gates") ad [.int x1, .int x2, .int x3] false) g).set (Str.ofString "k") (.int (k : Int))) := by
                                            have := hrec ((St.mk L' (.lst (Str.ofString "gates") ad [.int x1, .int x2, .int x3] false) g).set (Str.ofString "k") (.int (k : Int))) ⟨_, rfl, by simp (decide := true) only [v_set_loc, if_false]; exact h1, by simp (decide := true) only [v_set_loc, if_false]; exact h2, by simp (decide := true) only [v_set_loc, if_false]; exact h3⟩
                                            simpa using this
                                          have hk3 : k = 0 ∨ k = 1 ∨ k = 2 := by have := List.mem_range.mp hk; lia
                                          replace hrec : Hide _ := hrec
                                          clear t1 t2 t3 hk
                                          rcases hk3 with rfl | rfl | rfl
                                          · replace hK : Hide _ := hK
                                            dsimp only
                                            walk_at "mine vs"
                                            exact ⟨_, rfl, _, rfl, m, g, x1, rfl, hIg, m3, hx1, hK⟩
                                          · replace hK : Hide _ := hK
                                            dsimp only
                                            walk_at "mine vs"
                                            exact ⟨_, rfl, _, rfl, m, g, x2, rfl, hIg, m3, hx2, hK⟩
                                          · replace hK : Hide _ := hK
                                            dsimp only
                                            walk_at "mine vs"
                                            exact ⟨_, rfl, _, rfl, m, g, x3, rfl, hIg, m3, hx3, hK⟩
                                        · rintro st4 ⟨L', rfl, h1, h2, h3⟩
                                          have hnil2 : (List.range 3).filterMap (fun _ => (none : Option V)) = [] := by simp
                                          rw [hnil2]
                                          refine .inl ⟨[], [], rfl, rfl, ?_⟩
                                          rw [decide_eq_true rfl]
                                        · refine ⟨_, rfl, ?_, ?_, ?_⟩
                                          · simp (decide := true) only [v_inner_loc, v_set_loc, if_true, if_false]
                                          · simp (decide := true) only [v_inner_loc, v_set_loc, if_true, if_false]; exact hLg
                                          · simp (decide := true) only [v_inner_loc, v_set_loc, if_true, if_false]
                                · refine ⟨_, rfl, ?_⟩
                                  simp (decide := true) only [v_inner_loc, v_set_loc, if_true, if_false]
      case hU =>
        rintro cells st ⟨h1, h2, h3, h4, h5⟩
        obtain ⟨L, o, g⟩ := st
        dsimp only at h1 h2 h3 h4 h5
        subst h4 h5
        walk_at "mine vs"
        refine ⟨3, rfl, by decide, by decide, by show (0 : Int) ≤ 0; decide, by show (0 : Int) + 1 ≤ 100000; decide, fun r hr => ?_⟩
        obtain ⟨m, hm⟩ : ∃ m, m = r + 1 := ⟨_, rfl⟩
        have e1 : (1 : Int) + (r : Int) = (m : Int) := by lia
        have m1 : 1 ≤ m := by lia
        have m3 : m ≤ 3 := by lia
        clear hm hr
        walk_at "mine vs"
        refine ⟨small_nat (by lia), by rw [rangeSize_nat]; show _ ≤ 16777216; lia, ?_⟩
        refine compT_idx (fun i acc st => ∃ L' : Str → Option V, acc = (List.range i).map (fun k : Nat => .int ((k : Int) + 2)) ∧ st = ⟨L', .none, startG cells i⟩ ∧ L' (Str.ofString "circuit") = some (.obj .circ)) ?_ ?_ _ _ ?_
        · rintro i it acc st rec hit hrec ⟨L', rfl, rfl, hc⟩
          obtain ⟨hi, rfl⟩ := rng_at hit
          clear hit
          replace hrec : Hide _ := hrec
          dsimp only
          walk_at "mine vs"
          refine ⟨rfl, by show _ ≤ 16777216; simp [startG]; lia, by show _ ≤ 16777216; simp [startG]; lia, ?_⟩
          have hl : ((startG cells i).kinds.length : Int) = (i : Int) + 2 := by simp [startG]; lia
          rw [hl]
          refine hrec _ _ ⟨_, by rw [List.range_succ, List.map_append]; rfl, congrArg (St.mk _ _) ?_, ?_⟩
          · unfold startG
            simp only [List.replicate_succ', List.append_assoc]
          · simp (decide := true) only [v_set_loc, if_false]; exact hc
        · rintro acc st ⟨L', rfl, rfl, hc⟩
          rw [rng_len]
          refine ⟨(List.range m).map fun k : Nat => (k : Int) + 2, by rw [List.map_map]; rfl, rfl, ?_⟩
          have hW0 := start_inv cells m m1 m3
          have hR0 : Run2 m 0 5 10 1 { startG cells m with inputs := (List.range m).map fun i : Nat => (i : Int) + 2, ready := true } :=
            { wd := hW0
              nums := fun v hv => by cases hv
              len := rfl
              cap := by show ([Str.ofString "", Str.ofString "true"] ++ List.replicate m sInput).length ≤ 10; simp; lia
              lo := by show (0 : Int) ≤ 1; decide
              hi := by show (1 : Int) ≤ 1; decide
              done := rfl }
          change (_ : St → Prop) ⟨L, .none, { startG cells m with inputs := (List.range m).map fun i : Nat => (i : Int) + 2, ready := true }⟩
          generalize { startG cells m with inputs := (List.range m).map fun i : Nat => (i : Int) + 2, ready := true } = g0 at hR0
          walk_at "mine vc"
          change forT _ _ (List.map (fun i => It.one (V.int i)) (rngL 0 ((2 : Nat) : Int) 1)) _ _
          refine forT_idx (fun i st => ∃ (L : Str → Option V) (g : G), st = ⟨L, .none, g⟩ ∧ L (Str.ofString "feed") = some (.obj .feed) ∧ L (Str.ofString "world") = some (.obj .world) ∧ Run2 m i 5 (10 + 1600 * i) (1 + 6 * i) g) ?_ ?_ _ ?_
          · rintro i it st rec hit hrec ⟨L, g, rfl, hLf, hLw, hR⟩
            obtain ⟨hi, rfl⟩ := rng_at hit
            clear hit
            replace hrec : Hide _ := hrec
            dsimp only
            walk_at "mine vs"
            have c1 := hR.cap
            have c2 := hR.hi
            refine ⟨m, rfl, hR.wd, by show _ ≤ 1000000; lia, hR.lo, by lia, fun v g' hRun hI' hr => ?_⟩
            have hR' := hR.go hRun hI'
            refine ⟨⟨hR'.done, by rw [hR'.len]; show _ ≤ 16777216; lia⟩, ?_⟩
            walk_at "mine vs"
            refine hrec _ ⟨_, _, rfl, ?_, ?_, (hR'.add hr).le (by lia) (by lia) (by lia)⟩
            · simp (decide := true) only [v_set_loc, if_false]; exact hLf
            · simp (decide := true) only [v_set_loc, if_false]; exact hLw
          · rintro st ⟨L, g, rfl, hLf, hLw, hR⟩
            rw [rng_len] at hR
            walk_at "mine vc"
            change forT _ _ (List.map (fun i => It.one (V.int i)) (rngL 0 ((3 : Nat) : Int) 1)) _ _
            refine forT_idx (fun i st => ∃ (L : Str → Option V) (g : G), st = ⟨L, .none, g⟩ ∧ L (Str.ofString "feed") = some (.obj .feed) ∧ L (Str.ofString "world") = some (.obj .world) ∧ Run2 m (2 + i) (5 + 2 * i) (3210 + 1600 * i) (13 + 8 * i) g) ?_ ?_ _ ?_
            · rintro i it st rec hit hrec ⟨L, g, rfl, hLf, hLw, hR⟩
              obtain ⟨hi, rfl⟩ := rng_at hit
              clear hit
              replace hrec : Hide _ := hrec
              dsimp only
              walk_at "mine vs"
              have c1 := hR.cap
              have c2 := hR.hi
              have c3 := hR.len
              refine ⟨m, 5 + 2 * i, rfl, hR.wd, hR.nums, by intro e; rw [e] at c3; simp at c3; lia, by lia, by lia, by lia, by show _ ≤ 1000000; lia, hR.lo, by lia, fun v g' hRun hI' hr => ?_⟩
              have hR' := hR.go hRun hI'
              refine ⟨⟨hR'.done, by rw [hR'.len]; show _ ≤ 16777216; lia⟩, ?_⟩
              walk_at "mine vs"
              refine hrec _ ⟨_, _, rfl, ?_, ?_, ((hR'.le (w' := 5 + 2 * i + 2) (by lia) (Nat.le_refl _) (Nat.le_refl _)).add hr).le (by lia) (by lia) (by lia)⟩
              · simp (decide := true) only [v_set_loc, if_false]; exact hLf
              · simp (decide := true) only [v_set_loc, if_false]; exact hLw
            · rintro st ⟨L, g, rfl, hLf, hLw, hR⟩
              rw [rng_len] at hR
              have hR5 : Run2 m 5 11 8010 37 g := hR
              clear hR
              have c1 := hR5.cap
              have c2 := hR5.hi
              have c3 := hR5.lo
              have hlen5 := hR5.len
              have hWd := hR5.wd
              have hdn := hR5.done
              have hnums := hR5.nums
              have hIg := hWd.inv
              clear h1 h2 h3 hc hW0 hR0
              replace hR5 : Hide _ := hR5
              replace hWd : Hide _ := hWd
              replace hIg : Hide _ := hIg
              replace hdn : Hide _ := hdn
              replace hnums : Hide _ := hnums
              walk_at "mine vs"
              refine ⟨5, rfl, by decide, by decide, by lia, by lia, fun i hi => ?_⟩
              have hi' : i < g.numbers.length := by lia
              have hj' : ∀ j, j < 5 → j < g.numbers.length := fun j hj => by lia
              obtain ⟨a, ea, hna, la⟩ := (show ∀ v ∈ g.numbers, Right m 11 g v from hnums) _ (List.getElem_mem hi')
              have ea' : g.numbers[i] = V.tup [V.tup (a.map V.int), V.lst ((dues m g a).map V.int)] := ea
              refine ⟨g.numbers[i], ix_nat _ _ hi', ?_⟩
              rw [ea']
              walk_at "mine vs"
              refine ⟨5, rfl, by decide, by decide, by show 0 ≤ g.at_ + 1; lia, by show g.at_ + 1 + 1 ≤ 100000; lia, fun j hj => ?_⟩
              have hj2 : j < g.numbers.length := by lia
              obtain ⟨b, eb, hnb, lb⟩ := (show ∀ v ∈ g.numbers, Right m 11 g v from hnums) _ (List.getElem_mem hj2)
              have eb' : g.numbers[j] = V.tup [V.tup (b.map V.int), V.lst ((dues m g b).map V.int)] := eb
              refine ⟨g.numbers[j], ix_nat _ _ hj2, ?_⟩
              rw [eb']
              clear eb eb' ea ea' hj'
              have hR0' : Run2 m 5 11 8010 37 g := hR5
              obtain ⟨z, hz⟩ : ∃ z, z = g.at_ + 1 + 1 := ⟨_, rfl⟩
              have hRz : Run g (g.at' z) 0 2 := Run.at' g (by lia) (by lia)
              have hWz : Wd m (g.at' z) := hR0'.wd.at' z
              rw [← hz]
              have hzb : 0 ≤ z ∧ z ≤ 39 := by lia
              replace hz : Hide _ := hz
              have haz := hna.run hRz
              have hbz := hnb.run hRz
              replace hWz : Hide _ := hWz
              replace hR0' : Hide _ := hR0'
              walk_at "mine vs"
              refine ⟨_, rfl, _, rfl, m, a, b, rfl, (show Wd m (g.at' z) from hWz).inv, haz, hbz, by lia, by lia, by show g.kinds.length + 400 ≤ 1000000; lia, fun x1 g1 hE1 hI1 hx1 hv1 => ?_⟩
              have k1 := hE1.len
              have k1' : g1.kinds.length ≤ g.kinds.length + 400 := k1.2
              refine ⟨_, rfl, _, rfl, m, a, b, rfl, hI1, haz.ext hE1, hbz.ext hE1, by lia, by lia, by show g1.kinds.length + 400 ≤ 1000000; lia, fun x2 g2 hE2 hI2 hx2 hv2 => ?_⟩
              have k2 := hE2.len
              refine ⟨by show 2 ≤ 16777216; lia, fun ad => ?_⟩
              walk_at "mine vs"
              refine ⟨_, rfl, _, rfl, m, a, b, rfl, hI2, (haz.ext hE1).ext hE2, (hbz.ext hE1).ext hE2, by lia, by lia, by show g2.kinds.length + 400 ≤ 1000000; lia, fun x3 g3 hE3 hI3 hx3 hv3 => ?_⟩
              have k3 := hE3.len
              have hRun3 : Run g g3 1200 2 := (hRz.trans ((hE1.trans hE2).trans hE3).run).le (by lia) (by lia)
              have hat3 : g3.at_ = z := by rw [hE3.at_, hE2.at_, hE1.at_]
              refine ⟨by show 3 ≤ 16777216; lia, ?_⟩
              walk_at "mine vs"
              refine ⟨3001, rfl, by decide, by decide, by lia, by lia, fun r hr => ?_⟩
              have e15 : ((r : Int) - 1500) = ((r : Int) - 1500) := rfl
              walk_at "mine vs"
              refine ⟨(r : Int) - 1500, 11, rfl, by lia, by lia, by decide, fun zc hzc hst hl hv => ?_⟩
              have hW4 : Wd m (g3.at' (z + 1)) := ((show Run2 m 5 11 8010 37 g from hR0').wd.run hRun3 hI3).at' _
              have hR4 : Run g (g3.at' (z + 1)) 1200 3 := (hRun3.trans (Run.at' g3 (d := 1) (by lia) (by lia))).le (by lia) (by lia)
              have hRR := (show Run2 m 5 11 8010 37 g from hR0').go hR4 hW4.inv
              have hlen4 : (g3.inputs.map V.int).length = m := by
                have : g3.inputs = _ := hW4.inputs
                rw [this]; simp
              have m38 := pow3 m3
              have ep : (1 * 2 ^ m : Int) = ((2 ^ m : Nat) : Int) := by rw [Int.one_mul, Int.natCast_pow]; rfl
              simp only [hlen4, Int.toNat_natCast, ep]
              have hnum4 : g3.numbers.length = 5 := hRR.len
              have hrc : Right m 12 (g3.at' (z + 1)) (.tup [.tup (zc.map .int), .lst (List.replicate (2 ^ m) (.int ((r : Int) - 1500)))]) := by
                have := Right.of (m := m) (w := 12) (f := fun _ => (r : Int) - 1500) (settled_num hW4.inv hzc hst) hl (fun row _ => (hv m _ row hW4.inv).symm)
                rw [show (List.range (2 ^ m)).map (fun row => V.int ((fun _ => (r : Int) - 1500) row)) = List.replicate (2 ^ m) (V.int ((r : Int) - 1500)) from by rw [List.map_const', List.length_range]] at this
                exact this
              have hRa := (hRR.le (w' := 12) (by lia) (Nat.le_refl _) (Nat.le_refl _)).add hrc
              refine ⟨by show 1 ≤ 16777216; lia, hW4.ready, ⟨by lia, by lia⟩, ⟨Int.natCast_nonneg _, by lia⟩, by show 2 ≤ 16777216; lia, ⟨hRR.done, by rw [hnum4]; show _ ≤ 16777216; lia⟩, ?_⟩
              have hix5 : ix (g3.numbers ++ [V.tup [V.tup (zc.map V.int), V.lst (List.replicate (2 ^ m) (V.int ((r : Int) - 1500)))]]) 5 = some (V.tup [V.tup (zc.map V.int), V.lst (List.replicate (2 ^ m) (V.int ((r : Int) - 1500)))]) := by
                have := ix_nat (g3.numbers ++ [V.tup [V.tup (zc.map V.int), V.lst (List.replicate (2 ^ m) (V.int ((r : Int) - 1500)))]]) 5 (by simp [hnum4])
                rw [show ((5 : Nat) : Int) = 5 from rfl] at this
                rw [this, List.getElem_append_right (by lia)]
                simp [hnum4]
              walk_at "mine vc"
              simp only [hLw]
              walk_at "mine vc"
              refine ⟨_, hix5, ?_⟩
              have p1 : ∀ row, lit g3 row x1 = decide (num g3 row a < num g3 row b) := fun row => by
                have := hv1 row
                rw [lit_ext hI1 (hE2.trans hE3) hx1, num_ext hI1 (hE2.trans hE3) (haz.ext hE1), num_ext hI1 (hE2.trans hE3) (hbz.ext hE1)]; exact this
              have p2 : ∀ row, lit g3 row x2 = decide (num g3 row a ≤ num g3 row b) := fun row => by
                have := hv2 row
                rw [lit_ext hI2 hE3 hx2, num_ext hI2 hE3 ((haz.ext hE1).ext hE2), num_ext hI2 hE3 ((hbz.ext hE1).ext hE2)]; exact this
              have p3 : ∀ row, lit g3 row x3 = decide (num g3 row a = num g3 row b) := hv3
              have d1 : dues m (g3.at' (z + 1)) a = dues m g a := dues_run (show Inv m g from hIg) hR4 hna
              have d2 : dues m (g3.at' (z + 1)) b = dues m g b := dues_run (show Inv m g from hIg) hR4 hnb
              have na3 : Num g3 a := ((haz.ext hE1).ext hE2).ext hE3
              have nb3 : Num g3 b := ((hbz.ext hE1).ext hE2).ext hE3
              have gx1 : Gate g3 x1 := (hx1.ext hE2).ext hE3
              have gx2 : Gate g3 x2 := hx2.ext hE3
              refine ⟨_, rfl, ?_⟩
              change onIter (V.tup (zc.map V.int)) _ _
              rw [v_iter_t, List.map_map]
              obtain ⟨vc, hvc⟩ : ∃ vc, vc = V.tup [V.tup (zc.map V.int), V.lst (List.replicate (2 ^ m) (V.int ((r : Int) - 1500)))] := ⟨_, rfl⟩
              rw [← hvc] at hRa ⊢
              refine compT_fm zc _ (fun _ => none) (fun st => st.g = { g3.at' (z + 1) with numbers := g3.numbers ++ [vc] }) ?_ ?_ _ rfl
              · rintro x hx acc st rec hK hrec
                have hKK : rec acc (st.set (Str.ofString "g") (.int x)) := by
                  have := hrec (st.set (Str.ofString "g") (.int x)) hK
                  simpa using this
                show (fun st1 => _) (St.set st (Str.ofString "g") (V.int x))
                have hg1 : (st.set (Str.ofString "g") (.int x)).loc (Str.ofString "g") = some (.int x) := by simp (decide := true) only [v_set_loc, if_true]
                generalize st.set (Str.ofString "g") (V.int x) = st6 at hKK hg1 ⊢
                dsimp only
                simp only [v_name, hg1, v_nameK]
                refine ⟨[1, -1], rfl, ?_⟩
                have hmem : x ∈ [(1 : Int), -1] := by rcases hst x hx with rfl | rfl <;> simp
                rw [decide_eq_true hmem]
                exact hKK
              · rintro st5 hst5
                have hnil : zc.filterMap (fun _ => (none : Option V)) = [] := by simp
                rw [hnil]
                refine ⟨[], [], rfl, rfl, ?_⟩
                rw [decide_eq_true rfl]
                simp only [Bool.not_true, v_onBool]
                walk_at "mine vc"
                rw [hst5]
                refine ⟨hRR.done, ?_⟩
                refine ⟨m, _, ad, { g3.at' (z + 1) with numbers := g3.numbers ++ [vc], done := true }, a, b, x1, x2, x3, rfl, ?_, ?_, ?_, ?_, hRa.wd.still, hRa.nums, ?_, na3, nb3, gx1, gx2, hx3, p1, p2, p3, ?_, rfl⟩
                · simp (decide := true) only [v_set_loc, v_so_loc, if_false, if_true]; exact hLw
                · simp (decide := true) only [v_set_loc, v_so_loc, if_false, if_true]
                · simp (decide := true) only [v_set_loc, v_so_loc, if_false, if_true]
                  show some (V.tup [V.tup (a.map V.int), V.lst ((dues m g a).map V.int)]) = some (V.tup [V.tup (a.map V.int), V.lst ((dues m (g3.at' (z + 1)) a).map V.int)])
                  rw [d1]
                · simp (decide := true) only [v_set_loc, v_so_loc, if_false, if_true]
                  show some (V.tup [V.tup (b.map V.int), V.lst ((dues m g b).map V.int)]) = some (V.tup [V.tup (b.map V.int), V.lst ((dues m (g3.at' (z + 1)) b).map V.int)])
                  rw [d2]
                · show (g3.numbers ++ [vc]).length ≤ 10
                  rw [List.length_append, hnum4]; show 5 + 1 ≤ 10; decide
                · show g3.kinds.length ≤ 1000000
                  lia
            · exact ⟨_, g, rfl, hLf, hLw, hR⟩
          · exact ⟨_, g0, rfl, h1, h3, hR0⟩
        · refine ⟨_, rfl, rfl, ?_⟩
          simp (decide := true) only [v_inner_loc, if_true]; exact h2
  case hS => 
    rintro args g P ⟨ns, rfl, hl, hP⟩
    exact ⟨rfl, ⟨ns, hl, rfl⟩, fun st' => hP _⟩

theorem top {w : World} {s₁ : Shared} {mg mb : Str → Option Value} {fa a : Addr} {xs : List Value} {ns : List Int} {prog : Program} {Q : Value → Shared → Prop} (KX : (hd.heap_39 w.params).In s₁.heap) (Tg : s₁.heap.Ns mainGlobals mg) (Tb : s₁.heap.Ns builtinsNs mb)
    (hb : ∀ x : Str, x ≠ "__name__" → mb x = bootBuiltins x) (lim : s₁.heap.NoLimit) (hmg : mg (Str.ofString "law") = some (.ref fa)) (hl : s₁.heap.get? a = some { cls := .type "list", data := .seq xs.toArray }) (hI : IntsAre xs ns) (h63 : ns.length ≤ 63)
    (hQ : ∀ h' tk, (∀ b o, s₁.heap.get? b = some o → h'.get? b = some o) → Q (.bool true) { s₁ with heap := h', toks := tk }) : wpAny (model prog w) callerA (call (.ref fa) [.ref a]) Q (fun _ _ => False) s₁ := by
  have hfa : mg (Str.ofString "law") = some (.ref 305) := mg_of KX Tg (by kernel_rfl)
  rw [hfa] at hmg
  cases hmg
  let c : Cx := { prog := prog, w := w, ad := fun _ => 0, live := 0 }
  have off : ¬ On c.ad := fun h => h rfl
  have fz : ∀ b, ((∃ o, c.K.lookup b = some o) ∨ b = builtinsNs ∨ b = cStatics ∨ b = mainGlobals ∨ b = a) → ∃ o, s₁.heap.get? b = some o := by
    rintro b (⟨o, e⟩ | rfl | rfl | rfl | rfl)
    · exact ⟨o, KX b o e⟩
    · obtain ⟨o, _, _, e, _⟩ := Tb; exact ⟨o, e⟩
    · obtain ⟨_, ⟨o, _, _, e, _⟩, _⟩ := lim; exact ⟨o, e⟩
    · obtain ⟨o, _, _, e, _⟩ := Tg; exact ⟨o, e⟩
    · exact ⟨_, hl⟩
  refine f_law c off callerA (fun b => (∃ o, c.K.lookup b = some o) ∨ b = builtinsNs ∨ b = cStatics ∨ b = mainGlobals ∨ b = a) s₁ ⟨[], [], [], 0, [], [], [], false, false⟩ [.lst (ns.map .int)] [.ref a] (fun v _ => v = .bool true) Q ⟨rfl, by decide, by decide⟩
    ⟨fun b o e => ⟨.inl ⟨o, e⟩, KX b o e⟩, ⟨.inr (.inl rfl), mb, Tb, hb⟩, ⟨.inr (.inr (.inl rfl)), lim⟩, ⟨.inr (.inr (.inr (.inl rfl))), mg, Tg⟩⟩
    (off_g off) fz ⟨_, [], rfl, ⟨a, xs, rfl, .inr (.inr (.inr (.inr rfl))), ⟨0, hl⟩, repl_ints hI, by rw [List.length_map]; show _ ≤ 16777216; lia⟩, rfl⟩ ⟨ns, rfl, h63, fun _ => rfl⟩ fun F' h' tk v r g' S' G' Z' L' N' K' rv pr => ?_
  subst pr
  obtain rfl : v = .bool true := rv
  exact hQ h' tk fun b o e => K' b o e (fun m => off m.1)
theorem law_holds : PySem.Challenge.rw_nu0269_01.Holds := hd (by
  intro w s₀ s₁ mg mb G Y fa o pm cd doc dV kV ho hdd hcd hD hmg hg args vals as hpre hlay hrd hwl hlo
  have KX := kIn_of Y
  clear Y
  refine Ground.open G ?_
  intro T B D TE TW
  wrow_args hpre hlay hrd hwl hlo
  all_goals (
    rename_i ns hs0 hlay0 hLy hr1 hl2 as4 as3 a xs as0 hL ra w1 r0 hI hr hc1 hc2
    have hl : s₁.heap.get? a = some { cls := .type "list", data := .seq xs.toArray } := by
      cases w1 with
      | list e q =>
        obtain ⟨ol, el, hcl, n, hdt⟩ := hL
        rw [e] at el
        cases el
        cases hdt
        exact e
    refine wpAny_mono (top KX (Top.g T) (Top.b T) (fun x hx => T.builtins x hx) (Top.nolimit T) hmg hl hI (by lia) (Q := fun v s' => GoodWG Challenge.rw_nu0269_01.row.claim (classAt s₀.heap) (ExcName.means s₀.heap) [ofPy (PyData.list (List.map PyData.int ns))] s₁ (.ok (.ret v)) s') ?_) (fun _ _ q => q) (fun _ _ q => q.elim)
    intro h' tk hk
    exact GoodW.toG ⟨.inl ⟨.bool true, .bool true, [], rfl, fun _ => rfl, .bool true, by wrow_post, unshared_nil⟩, hk, rfl, hg⟩))

end Mine

theorem PySem.Challenge.cw_nu0269_01_holds : PySem.Challenge.rw_nu0269_01.Holds :=
  Mine.law_holds
