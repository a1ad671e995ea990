import PyProof.Rows.All
import Wide.All
import OpenK.AllK
import Wide.FinOn
import PySem.Challenge.RW_sq0008_01
open PySem PySem.W PySem.Calls PyProof.Rows
set_option Elab.async false
set_option linter.unusedVariables false
set_option maxRecDepth 100000
set_option maxHeartbeats 8000000
set_option compiler.extract_closed false

namespace Mine.hd
abbrev PG : Program := PySem.Challenge.rw_sq0008_01.row.prog
noncomputable abbrev bd : List Stmt := behindTheImports PG
noncomputable abbrev ss (s : String) (t : Nat) : Value := .str (Str.ofString s) t
noncomputable abbrev ii (k : Int) (t : Nat) : Value := .int k t
noncomputable abbrev bb (b : Bool) : Value := .bool b
noncomputable abbrev nn : Value := .none
noncomputable abbrev ty (s : String) : Value := .type s
noncomputable abbrev bi (s : String) : Value := .builtin s
noncomputable abbrev rr (a : Nat) : Value := .ref a
noncomputable abbrev de (P : Params) (s : String) (t : Nat) (v : Value) : DictEntry := ⟨PyData.keyHash P (Str.ofString s), .str (Str.ofString s) t, v⟩
noncomputable abbrev dct (c : Value) (l : List DictEntry) (n : Nat) : Obj := ⟨c, none, .dict l.toArray n, #[]⟩
noncomputable abbrev tup (l : List Value) : Obj := ⟨.type "tuple", none, .seq l.toArray 0, #[]⟩
noncomputable abbrev fld (c : Value) (l : List Value) : Obj := ⟨c, none, .fields l.toArray, #[]⟩
noncomputable def nth : List Stmt → Nat → Stmt
  | x :: _, 0 => x
  | _ :: l, n + 1 => nth l n
  | [], _ => .Pass ⟨0, 0, 0, 0⟩
noncomputable def kids : Stmt → List Stmt
  | .ClassDef _ _ _ b .. => b
  | _ => []
noncomputable def st (i : Nat) : Stmt := nth PG.main.body i
noncomputable def mt (i j : Nat) : Stmt := nth (kids (st i)) j
noncomputable def fnA : Stmt → Arguments
  | .FunctionDef _ a .. => a
  | _ => default
noncomputable def fnB : Stmt → List Stmt
  | .FunctionDef _ _ b .. => b
  | _ => []
noncomputable def fnS : Stmt → Scope
  | .FunctionDef _ _ _ _ _ _ s .. => s
  | _ => default
noncomputable abbrev lit {α : Type} (a b : α) (_ : a = b) : α := b
noncomputable abbrev fu (n q : String) (A : Arguments) (B : List Stmt) (S : Scope) (g : Addr) (df kw doc pm cd ct : Value) (bl : Addr) : FuncData :=
  { name := Str.ofString n, qualname := Str.ofString q, params := A, body := .stmts B, scope := S, globals := g, closure := [], defaults := df, kwdefaults := kw, doc := doc, pyModule := pm, code := cd, closureTuple := ct, builtins := bl }
noncomputable abbrev cl (n : String) (bs ms : List Value) (ns : Addr) (q : String) : ClassData := { name := Str.ofString n, bases := bs, mro := ms, ns := ns, qualname := Str.ofString q }

noncomputable abbrev A0 : Arguments := fnA (st 0)
noncomputable abbrev B0 : List Stmt := lit (fnB (st 0)) _ (by conv => lhs; whnf)
noncomputable abbrev S0 : Scope := fnS (st 0)
noncomputable abbrev A2x0 : Arguments := fnA (mt 2 0)
noncomputable abbrev B2x0 : List Stmt := lit (fnB (mt 2 0)) _ (by conv => lhs; whnf)
noncomputable abbrev S2x0 : Scope := fnS (mt 2 0)
noncomputable abbrev A4x0 : Arguments := fnA (mt 4 0)
noncomputable abbrev B4x0 : List Stmt := lit (fnB (mt 4 0)) _ (by conv => lhs; whnf)
noncomputable abbrev S4x0 : Scope := fnS (mt 4 0)
noncomputable abbrev A6x0 : Arguments := fnA (mt 6 0)
noncomputable abbrev B6x0 : List Stmt := lit (fnB (mt 6 0)) _ (by conv => lhs; whnf)
noncomputable abbrev S6x0 : Scope := fnS (mt 6 0)
noncomputable abbrev A7x0 : Arguments := fnA (mt 7 0)
noncomputable abbrev B7x0 : List Stmt := lit (fnB (mt 7 0)) _ (by conv => lhs; whnf)
noncomputable abbrev S7x0 : Scope := fnS (mt 7 0)
noncomputable abbrev A8x0 : Arguments := fnA (mt 8 0)
noncomputable abbrev B8x0 : List Stmt := lit (fnB (mt 8 0)) _ (by conv => lhs; whnf)
noncomputable abbrev S8x0 : Scope := fnS (mt 8 0)
noncomputable abbrev A9x0 : Arguments := fnA (mt 9 0)
noncomputable abbrev B9x0 : List Stmt := lit (fnB (mt 9 0)) _ (by conv => lhs; whnf)
noncomputable abbrev S9x0 : Scope := fnS (mt 9 0)
noncomputable abbrev A10x0 : Arguments := fnA (mt 10 0)
noncomputable abbrev B10x0 : List Stmt := lit (fnB (mt 10 0)) _ (by conv => lhs; whnf)
noncomputable abbrev S10x0 : Scope := fnS (mt 10 0)
noncomputable abbrev A10x1 : Arguments := fnA (mt 10 1)
noncomputable abbrev B10x1 : List Stmt := lit (fnB (mt 10 1)) _ (by conv => lhs; whnf)
noncomputable abbrev S10x1 : Scope := fnS (mt 10 1)
noncomputable abbrev A10x2 : Arguments := fnA (mt 10 2)
noncomputable abbrev B10x2 : List Stmt := lit (fnB (mt 10 2)) _ (by conv => lhs; whnf)
noncomputable abbrev S10x2 : Scope := fnS (mt 10 2)
noncomputable abbrev A11 : Arguments := fnA (st 11)
noncomputable abbrev B11 : List Stmt := lit (fnB (st 11)) _ (by conv => lhs; whnf)
noncomputable abbrev S11 : Scope := fnS (st 11)
noncomputable abbrev A12 : Arguments := fnA (st 12)
noncomputable abbrev B12 : List Stmt := lit (fnB (st 12)) _ (by conv => lhs; whnf)
noncomputable abbrev S12 : Scope := fnS (st 12)
noncomputable abbrev A13 : Arguments := fnA (st 13)
noncomputable abbrev B13 : List Stmt := lit (fnB (st 13)) _ (by conv => lhs; whnf)
noncomputable abbrev S13 : Scope := fnS (st 13)
noncomputable abbrev A14 : Arguments := fnA (st 14)
noncomputable abbrev B14 : List Stmt := lit (fnB (st 14)) _ (by conv => lhs; whnf)
noncomputable abbrev S14 : Scope := fnS (st 14)
noncomputable abbrev A15 : Arguments := fnA (st 15)
noncomputable abbrev B15 : List Stmt := lit (fnB (st 15)) _ (by conv => lhs; whnf)
noncomputable abbrev S15 : Scope := fnS (st 15)
noncomputable abbrev A18 : Arguments := fnA (st 18)
noncomputable abbrev B18 : List Stmt := lit (fnB (st 18)) _ (by conv => lhs; whnf)
noncomputable abbrev S18 : Scope := fnS (st 18)
noncomputable abbrev A19 : Arguments := fnA (st 19)
noncomputable abbrev B19 : List Stmt := lit (fnB (st 19)) _ (by conv => lhs; whnf)
noncomputable abbrev S19 : Scope := fnS (st 19)
noncomputable abbrev A20 : Arguments := fnA (st 20)
noncomputable abbrev B20 : List Stmt := lit (fnB (st 20)) _ (by conv => lhs; whnf)
noncomputable abbrev S20 : Scope := fnS (st 20)
noncomputable abbrev A21 : Arguments := fnA (st 21)
noncomputable abbrev B21 : List Stmt := lit (fnB (st 21)) _ (by conv => lhs; whnf)
noncomputable abbrev S21 : Scope := fnS (st 21)
noncomputable abbrev A22 : Arguments := fnA (st 22)
noncomputable abbrev B22 : List Stmt := lit (fnB (st 22)) _ (by conv => lhs; whnf)
noncomputable abbrev S22 : Scope := fnS (st 22)
noncomputable abbrev A23 : Arguments := fnA (st 23)
noncomputable abbrev B23 : List Stmt := lit (fnB (st 23)) _ (by conv => lhs; whnf)
noncomputable abbrev S23 : Scope := fnS (st 23)
noncomputable abbrev A24 : Arguments := fnA (st 24)
noncomputable abbrev B24 : List Stmt := lit (fnB (st 24)) _ (by conv => lhs; whnf)
noncomputable abbrev S24 : Scope := fnS (st 24)
noncomputable abbrev A25 : Arguments := fnA (st 25)
noncomputable abbrev B25 : List Stmt := lit (fnB (st 25)) _ (by conv => lhs; whnf)
noncomputable abbrev S25 : Scope := fnS (st 25)
noncomputable abbrev A29 : Arguments := fnA (st 29)
noncomputable abbrev B29 : List Stmt := lit (fnB (st 29)) _ (by conv => lhs; whnf)
noncomputable abbrev S29 : Scope := fnS (st 29)
noncomputable abbrev A30 : Arguments := fnA (st 30)
noncomputable abbrev B30 : List Stmt := lit (fnB (st 30)) _ (by conv => lhs; whnf)
noncomputable abbrev S30 : Scope := fnS (st 30)
noncomputable abbrev A31 : Arguments := fnA (st 31)
noncomputable abbrev B31 : List Stmt := lit (fnB (st 31)) _ (by conv => lhs; whnf)
noncomputable abbrev S31 : Scope := fnS (st 31)
noncomputable abbrev A32 : Arguments := fnA (st 32)
noncomputable abbrev B32 : List Stmt := lit (fnB (st 32)) _ (by conv => lhs; whnf)
noncomputable abbrev S32 : Scope := fnS (st 32)
noncomputable abbrev A33x0 : Arguments := fnA (mt 33 0)
noncomputable abbrev B33x0 : List Stmt := lit (fnB (mt 33 0)) _ (by conv => lhs; whnf)
noncomputable abbrev S33x0 : Scope := fnS (mt 33 0)
noncomputable abbrev A33x1 : Arguments := fnA (mt 33 1)
noncomputable abbrev B33x1 : List Stmt := lit (fnB (mt 33 1)) _ (by conv => lhs; whnf)
noncomputable abbrev S33x1 : Scope := fnS (mt 33 1)
noncomputable abbrev A33x2 : Arguments := fnA (mt 33 2)
noncomputable abbrev B33x2 : List Stmt := lit (fnB (mt 33 2)) _ (by conv => lhs; whnf)
noncomputable abbrev S33x2 : Scope := fnS (mt 33 2)
noncomputable abbrev A34 : Arguments := fnA (st 34)
noncomputable abbrev B34 : List Stmt := lit (fnB (st 34)) _ (by conv => lhs; whnf)
noncomputable abbrev S34 : Scope := fnS (st 34)
noncomputable abbrev A35 : Arguments := fnA (st 35)
noncomputable abbrev B35 : List Stmt := lit (fnB (st 35)) _ (by conv => lhs; whnf)
noncomputable abbrev S35 : Scope := fnS (st 35)
noncomputable abbrev A36 : Arguments := fnA (st 36)
noncomputable abbrev B36 : List Stmt := lit (fnB (st 36)) _ (by conv => lhs; whnf)
noncomputable abbrev S36 : Scope := fnS (st 36)
noncomputable abbrev A38 : Arguments := fnA (st 38)
noncomputable abbrev B38 : List Stmt := lit (fnB (st 38)) _ (by conv => lhs; whnf)
noncomputable abbrev S38 : Scope := fnS (st 38)
noncomputable abbrev A39 : Arguments := fnA (st 39)
noncomputable abbrev B39 : List Stmt := lit (fnB (st 39)) _ (by conv => lhs; whnf)
noncomputable abbrev S39 : Scope := fnS (st 39)
noncomputable abbrev A40 : Arguments := fnA (st 40)
noncomputable abbrev B40 : List Stmt := lit (fnB (st 40)) _ (by conv => lhs; whnf)
noncomputable abbrev S40 : Scope := fnS (st 40)
noncomputable abbrev A41 : Arguments := fnA (st 41)
noncomputable abbrev B41 : List Stmt := lit (fnB (st 41)) _ (by conv => lhs; whnf)
noncomputable abbrev S41 : Scope := fnS (st 41)
noncomputable abbrev A42 : Arguments := fnA (st 42)
noncomputable abbrev B42 : List Stmt := lit (fnB (st 42)) _ (by conv => lhs; whnf)
noncomputable abbrev S42 : Scope := fnS (st 42)
noncomputable abbrev A43 : Arguments := fnA (st 43)
noncomputable abbrev B43 : List Stmt := lit (fnB (st 43)) _ (by conv => lhs; whnf)
noncomputable abbrev S43 : Scope := fnS (st 43)
noncomputable abbrev A44 : Arguments := fnA (st 44)
noncomputable abbrev B44 : List Stmt := lit (fnB (st 44)) _ (by conv => lhs; whnf)
noncomputable abbrev S44 : Scope := fnS (st 44)
noncomputable abbrev A45 : Arguments := fnA (st 45)
noncomputable abbrev B45 : List Stmt := lit (fnB (st 45)) _ (by conv => lhs; whnf)
noncomputable abbrev S45 : Scope := fnS (st 45)
noncomputable abbrev A46 : Arguments := fnA (st 46)
noncomputable abbrev B46 : List Stmt := lit (fnB (st 46)) _ (by conv => lhs; whnf)
noncomputable abbrev S46 : Scope := fnS (st 46)
noncomputable abbrev A47 : Arguments := fnA (st 47)
noncomputable abbrev B47 : List Stmt := lit (fnB (st 47)) _ (by conv => lhs; whnf)
noncomputable abbrev S47 : Scope := fnS (st 47)
noncomputable abbrev A48 : Arguments := fnA (st 48)
noncomputable abbrev B48 : List Stmt := lit (fnB (st 48)) _ (by conv => lhs; whnf)
noncomputable abbrev S48 : Scope := fnS (st 48)
noncomputable abbrev A49 : Arguments := fnA (st 49)
noncomputable abbrev B49 : List Stmt := lit (fnB (st 49)) _ (by conv => lhs; whnf)
noncomputable abbrev S49 : Scope := fnS (st 49)
noncomputable abbrev A50 : Arguments := fnA (st 50)
noncomputable abbrev B50 : List Stmt := lit (fnB (st 50)) _ (by conv => lhs; whnf)
noncomputable abbrev S50 : Scope := fnS (st 50)
noncomputable abbrev A51 : Arguments := fnA (st 51)
noncomputable abbrev B51 : List Stmt := lit (fnB (st 51)) _ (by conv => lhs; whnf)
noncomputable abbrev S51 : Scope := fnS (st 51)
noncomputable abbrev A52 : Arguments := fnA (st 52)
noncomputable abbrev B52 : List Stmt := lit (fnB (st 52)) _ (by conv => lhs; whnf)
noncomputable abbrev S52 : Scope := fnS (st 52)
noncomputable abbrev A53 : Arguments := fnA (st 53)
noncomputable abbrev B53 : List Stmt := lit (fnB (st 53)) _ (by conv => lhs; whnf)
noncomputable abbrev S53 : Scope := fnS (st 53)
noncomputable abbrev A54 : Arguments := fnA (st 54)
noncomputable abbrev B54 : List Stmt := lit (fnB (st 54)) _ (by conv => lhs; whnf)
noncomputable abbrev S54 : Scope := fnS (st 54)
noncomputable abbrev A55 : Arguments := fnA (st 55)
noncomputable abbrev B55 : List Stmt := lit (fnB (st 55)) _ (by conv => lhs; whnf)
noncomputable abbrev S55 : Scope := fnS (st 55)
noncomputable abbrev A56 : Arguments := fnA (st 56)
noncomputable abbrev B56 : List Stmt := lit (fnB (st 56)) _ (by conv => lhs; whnf)
noncomputable abbrev S56 : Scope := fnS (st 56)
noncomputable abbrev A57 : Arguments := fnA (st 57)
noncomputable abbrev B57 : List Stmt := lit (fnB (st 57)) _ (by conv => lhs; whnf)
noncomputable abbrev S57 : Scope := fnS (st 57)
noncomputable abbrev A58 : Arguments := fnA (st 58)
noncomputable abbrev B58 : List Stmt := lit (fnB (st 58)) _ (by conv => lhs; whnf)
noncomputable abbrev S58 : Scope := fnS (st 58)
noncomputable abbrev A59 : Arguments := fnA (st 59)
noncomputable abbrev B59 : List Stmt := lit (fnB (st 59)) _ (by conv => lhs; whnf)
noncomputable abbrev S59 : Scope := fnS (st 59)
noncomputable abbrev A60 : Arguments := fnA (st 60)
noncomputable abbrev B60 : List Stmt := lit (fnB (st 60)) _ (by conv => lhs; whnf)
noncomputable abbrev S60 : Scope := fnS (st 60)
noncomputable abbrev A63 : Arguments := fnA (st 63)
noncomputable abbrev B63 : List Stmt := lit (fnB (st 63)) _ (by conv => lhs; whnf)
noncomputable abbrev S63 : Scope := fnS (st 63)
noncomputable abbrev A64 : Arguments := fnA (st 64)
noncomputable abbrev B64 : List Stmt := lit (fnB (st 64)) _ (by conv => lhs; whnf)
noncomputable abbrev S64 : Scope := fnS (st 64)
noncomputable abbrev A65 : Arguments := fnA (st 65)
noncomputable abbrev B65 : List Stmt := lit (fnB (st 65)) _ (by conv => lhs; whnf)
noncomputable abbrev S65 : Scope := fnS (st 65)
noncomputable abbrev A66 : Arguments := fnA (st 66)
noncomputable abbrev B66 : List Stmt := lit (fnB (st 66)) _ (by conv => lhs; whnf)
noncomputable abbrev S66 : Scope := fnS (st 66)
noncomputable abbrev A67 : Arguments := fnA (st 67)
noncomputable abbrev B67 : List Stmt := lit (fnB (st 67)) _ (by conv => lhs; whnf)
noncomputable abbrev S67 : Scope := fnS (st 67)
noncomputable abbrev A68 : Arguments := fnA (st 68)
noncomputable abbrev B68 : List Stmt := lit (fnB (st 68)) _ (by conv => lhs; whnf)
noncomputable abbrev S68 : Scope := fnS (st 68)
noncomputable abbrev A69 : Arguments := fnA (st 69)
noncomputable abbrev B69 : List Stmt := lit (fnB (st 69)) _ (by conv => lhs; whnf)
noncomputable abbrev S69 : Scope := fnS (st 69)
noncomputable abbrev A70 : Arguments := fnA (st 70)
noncomputable abbrev B70 : List Stmt := lit (fnB (st 70)) _ (by conv => lhs; whnf)
noncomputable abbrev S70 : Scope := fnS (st 70)
noncomputable abbrev A71 : Arguments := fnA (st 71)
noncomputable abbrev B71 : List Stmt := lit (fnB (st 71)) _ (by conv => lhs; whnf)
noncomputable abbrev S71 : Scope := fnS (st 71)
noncomputable abbrev A72 : Arguments := fnA (st 72)
noncomputable abbrev B72 : List Stmt := lit (fnB (st 72)) _ (by conv => lhs; whnf)
noncomputable abbrev S72 : Scope := fnS (st 72)
noncomputable abbrev A73 : Arguments := fnA (st 73)
noncomputable abbrev B73 : List Stmt := lit (fnB (st 73)) _ (by conv => lhs; whnf)
noncomputable abbrev S73 : Scope := fnS (st 73)
noncomputable abbrev A74 : Arguments := fnA (st 74)
noncomputable abbrev B74 : List Stmt := lit (fnB (st 74)) _ (by conv => lhs; whnf)
noncomputable abbrev S74 : Scope := fnS (st 74)
noncomputable abbrev A75 : Arguments := fnA (st 75)
noncomputable abbrev B75 : List Stmt := lit (fnB (st 75)) _ (by conv => lhs; whnf)
noncomputable abbrev S75 : Scope := fnS (st 75)
noncomputable abbrev A76 : Arguments := fnA (st 76)
noncomputable abbrev B76 : List Stmt := lit (fnB (st 76)) _ (by conv => lhs; whnf)
noncomputable abbrev S76 : Scope := fnS (st 76)
noncomputable abbrev A77 : Arguments := fnA (st 77)
noncomputable abbrev B77 : List Stmt := lit (fnB (st 77)) _ (by conv => lhs; whnf)
noncomputable abbrev S77 : Scope := fnS (st 77)
noncomputable abbrev A78 : Arguments := fnA (st 78)
noncomputable abbrev B78 : List Stmt := lit (fnB (st 78)) _ (by conv => lhs; whnf)
noncomputable abbrev S78 : Scope := fnS (st 78)
noncomputable abbrev A79 : Arguments := fnA (st 79)
noncomputable abbrev B79 : List Stmt := lit (fnB (st 79)) _ (by conv => lhs; whnf)
noncomputable abbrev S79 : Scope := fnS (st 79)
noncomputable abbrev A81 : Arguments := fnA (st 81)
noncomputable abbrev B81 : List Stmt := lit (fnB (st 81)) _ (by conv => lhs; whnf)
noncomputable abbrev S81 : Scope := fnS (st 81)
noncomputable abbrev A82 : Arguments := fnA (st 82)
noncomputable abbrev B82 : List Stmt := lit (fnB (st 82)) _ (by conv => lhs; whnf)
noncomputable abbrev S82 : Scope := fnS (st 82)
noncomputable abbrev A83 : Arguments := fnA (st 83)
noncomputable abbrev B83 : List Stmt := lit (fnB (st 83)) _ (by conv => lhs; whnf)
noncomputable abbrev S83 : Scope := fnS (st 83)
noncomputable abbrev A84 : Arguments := fnA (st 84)
noncomputable abbrev B84 : List Stmt := lit (fnB (st 84)) _ (by conv => lhs; whnf)
noncomputable abbrev S84 : Scope := fnS (st 84)
noncomputable abbrev A85 : Arguments := fnA (st 85)
noncomputable abbrev B85 : List Stmt := lit (fnB (st 85)) _ (by conv => lhs; whnf)
noncomputable abbrev S85 : Scope := fnS (st 85)
noncomputable abbrev A86 : Arguments := fnA (st 86)
noncomputable abbrev B86 : List Stmt := lit (fnB (st 86)) _ (by conv => lhs; whnf)
noncomputable abbrev S86 : Scope := fnS (st 86)
noncomputable abbrev A87 : Arguments := fnA (st 87)
noncomputable abbrev B87 : List Stmt := lit (fnB (st 87)) _ (by conv => lhs; whnf)
noncomputable abbrev S87 : Scope := fnS (st 87)
noncomputable abbrev A88 : Arguments := fnA (st 88)
noncomputable abbrev B88 : List Stmt := lit (fnB (st 88)) _ (by conv => lhs; whnf)
noncomputable abbrev S88 : Scope := fnS (st 88)
noncomputable abbrev A89 : Arguments := fnA (st 89)
noncomputable abbrev B89 : List Stmt := lit (fnB (st 89)) _ (by conv => lhs; whnf)
noncomputable abbrev S89 : Scope := fnS (st 89)
noncomputable abbrev A90 : Arguments := fnA (st 90)
noncomputable abbrev B90 : List Stmt := lit (fnB (st 90)) _ (by conv => lhs; whnf)
noncomputable abbrev S90 : Scope := fnS (st 90)
noncomputable abbrev A91 : Arguments := fnA (st 91)
noncomputable abbrev B91 : List Stmt := lit (fnB (st 91)) _ (by conv => lhs; whnf)
noncomputable abbrev S91 : Scope := fnS (st 91)
noncomputable abbrev A92 : Arguments := fnA (st 92)
noncomputable abbrev B92 : List Stmt := lit (fnB (st 92)) _ (by conv => lhs; whnf)
noncomputable abbrev S92 : Scope := fnS (st 92)
noncomputable def o2 (P : Params) : Obj := dct nn [de P "type.__subclasses__.Exception.0" 223 (ii 38 0), de P "type.__subclasses__.Exception.n" 224 (ii 1 0)] 2
noncomputable def e3 (P : Params) : List DictEntry := [de P "__doc__" 166 nn, de P "__package__" 167 nn, de P "__loader__" 168 (bi "__main__.__loader__#opaque"), de P "__spec__" 169 nn, de P "__annotations__" 170 (rr 6), de P "__builtins__" 171 (rr 4), de P "__file__" 173 (ss "/claim/cut.py" 172), de P "__cached__" 174 nn, de P "_wall" 193 (rr 21), de P "LispSignal" 226 (rr 38), de P "Symbol" 260 (rr 58), de P "NIL" 272 (rr 64), de P "Cons" 303 (rr 82), de P "Text" 334 (rr 104), de P "Vector" 363 (rr 125), de P "ByteCode" 392 (rr 146), de P "Opaque" 434 (rr 181), de P "list_of" 444 (rr 193), de P "split_list" 454 (rr 200), de P "items_of" 463 (rr 207), de P "is_whole" 470 (rr 214), de P "is_list" 477 (rr 221), de P "LONGEST" 483 (ii 1048576 482), de P "wrong" 491 (rr 228), de P "need_list" 498 (rr 235), de P "need_whole" 505 (rr 242), de P "need_bounded" 512 (rr 249), de P "things_of" 521 (rr 256), de P "car_of" 528 (rr 263), de P "cdr_of" 535 (rr 270), de P "lisp_proper_list_p" 544 (rr 277), de P "MOST_STEPS" 550 (ii 8388608 549), de P "MOST_DEEP" 552 (ii 200 551), de P "eq" 560 (rr 284), de P "eql" 568 (rr 291), de P "parts_of" 574 (rr 296), de P "are_of_one_class" 583 (rr 303), de P "Task" 633 (rr 334), de P "equal_by" 639 (rr 343), de P "are_any" 647 (rr 350), de P "equal" 655 (rr 357), de P "ring_of" 669 (rr 364), de P "rest_at" 680 (rr 371), de P "lisp_nthcdr" 688 (rr 378), de P "lisp_nth" 696 (rr 385), de P "lisp_take" 707 (rr 392), de P "lisp_last" 718 (rr 399), de P "lisp_butlast" 728 (rr 406), de P "last_pair" 736 (rr 413), de P "lisp_nconc" 746 (rr 420), de P "lisp_memq" 754 (rr 427), de P "lisp_memql" 762 (rr 434), de P "lisp_member" 770 (rr 441), de P "rest_from" 781 (rr 448), de P "rest_where" 792 (rr 455), de P "left_out" 803 (rr 462), de P "lisp_delq" 811 (rr 469), de P "lisp_remq" 817 (rr 474), de P "pair_with" 831 (rr 481), de P "lisp_assq" 839 (rr 488), de P "lisp_assoc" 847 (rr 495), de P "lisp_rassq" 855 (rr 502), de P "lisp_rassoc" 863 (rr 509), de P "lisp_copy_alist" 869 (rr 514), de P "LAST_CODE" 873 (ii 4194303 872), de P "is_code" 880 (rr 521), de P "need_code" 887 (rr 528), de P "is_array" 894 (rr 535), de P "things_in" 901 (rr 542), de P "alike" 907 (rr 547), de P "need_place" 916 (rr 554), de P "lisp_length" 924 (rr 561), de P "lisp_safe_length" 932 (rr 568), de P "lisp_elt" 941 (rr 575), de P "lisp_aref" 950 (rr 582), de P "lisp_append" 962 (rr 589), de P "lisp_vconcat" 972 (rr 596), de P "lisp_copy_sequence" 980 (rr 603), de P "lisp_reverse" 988 (rr 610), de P "lisp_nreverse" 999 (rr 617), de P "lisp_delete" 1005 (rr 622), de P "lisp_remove" 1011 (rr 627), de P "_law_draw" 1021 (rr 634), de P "_law_ring" 1035 (rr 641), de P "_law_spot" 1046 (rr 648), de P "_law_stays" 1060 (rr 655), de P "_law_told" 1069 (rr 662), de P "_law_is_the" 1077 (rr 669), de P "_law_by_place" 1090 (rr 676), de P "_law_by_take" 1096 (rr 681), de P "_law_by_look" 1102 (rr 686), de P "_law_by_end" 1118 (rr 693), de P "_law_by_rest" 1124 (rr 698), de P "law" 1130 (rr 703)]
noncomputable def o3 (P : Params) : Obj := dct (ty "dict") (de P "__name__" 165 (ss "law_sq0008_01" 1012) :: e3 P) 95
noncomputable def o11 : Obj := tup []
noncomputable def e12 : List Value := [(ii 1 0), (ii 0 0), (rr 20), (ii 5 0), (ii 0 0), (rr 27), (ii 11 0), (ii 0 0), (rr 47), (ii 18 0), (ii 0 0), (rr 71), (ii 23 0), (ii 0 0), (rr 92), (ii 28 0), (ii 0 0), (rr 114), (ii 32 0), (ii 0 0), (rr 135), (ii 36 0), (ii 0 0), (rr 156), (ii 46 0), (ii 0 0), (rr 192), (ii 51 0), (ii 0 0), (rr 199), (ii 63 0), (ii 0 0), (rr 206), (ii 66 0), (ii 0 0), (rr 213), (ii 68 0), (ii 0 0), (rr 220), (ii 72 0), (ii 0 0), (rr 227), (ii 74 0), (ii 0 0), (rr 234), (ii 78 0), (ii 0 0), (rr 241), (ii 82 0), (ii 0 0), (rr 248), (ii 86 0), (ii 0 0), (rr 255), (ii 94 0), (ii 0 0), (rr 262), (ii 96 0), (ii 0 0), (rr 269), (ii 98 0), (ii 0 0), (rr 276), (ii 104 0), (ii 0 0), (rr 283), (ii 108 0), (ii 0 0), (rr 290), (ii 110 0), (ii 0 0), (rr 295), (ii 118 0), (ii 0 0), (rr 302), (ii 123 0), (ii 0 0), (rr 309), (ii 143 0), (ii 0 0), (rr 342), (ii 167 0), (ii 0 0), (rr 349), (ii 169 0), (ii 0 0), (rr 356), (ii 172 0), (ii 0 0), (rr 363), (ii 185 0), (ii 0 0), (rr 370), (ii 195 0), (ii 0 0), (rr 377), (ii 197 0), (ii 0 0), (rr 384), (ii 199 0), (ii 0 0), (rr 391), (ii 209 0), (ii 0 0), (rr 398), (ii 215 0), (ii 0 0), (rr 405), (ii 221 0), (ii 0 0), (rr 412), (ii 228 0), (ii 0 0), (rr 419), (ii 235 0), (ii 0 0), (rr 426), (ii 237 0), (ii 0 0), (rr 433), (ii 239 0), (ii 0 0), (rr 440), (ii 241 0), (ii 0 0), (rr 447), (ii 243 0), (ii 0 0), (rr 454), (ii 259 0), (ii 0 0), (rr 461), (ii 271 0), (ii 0 0), (rr 468), (ii 273 0), (ii 0 0), (rr 473), (ii 275 0), (ii 0 0), (rr 480), (ii 278 0), (ii 0 0), (rr 487), (ii 280 0), (ii 0 0), (rr 494), (ii 282 0), (ii 0 0), (rr 501), (ii 284 0), (ii 0 0), (rr 508), (ii 286 0), (ii 0 0), (rr 513), (ii 291 0), (ii 0 0), (rr 520), (ii 293 0), (ii 0 0), (rr 527), (ii 297 0), (ii 0 0), (rr 534), (ii 299 0), (ii 0 0), (rr 541), (ii 307 0), (ii 0 0), (rr 546), (ii 311 0), (ii 0 0), (rr 553), (ii 315 0), (ii 0 0), (rr 560), (ii 317 0), (ii 0 0), (rr 567), (ii 319 0), (ii 0 0), (rr 574), (ii 328 0), (ii 0 0), (rr 581), (ii 333 0), (ii 0 0), (rr 588), (ii 340 0), (ii 0 0), (rr 595), (ii 346 0), (ii 0 0), (rr 602), (ii 350 0), (ii 0 0), (rr 609), (ii 352 0), (ii 0 0), (rr 616), (ii 365 0), (ii 0 0), (rr 621), (ii 380 0), (ii 0 0), (rr 626), (ii 383 0), (ii 0 0), (rr 633), (ii 388 0), (ii 0 0), (rr 640), (ii 400 0), (ii 0 0), (rr 647), (ii 403 0), (ii 0 0), (rr 654), (ii 410 0), (ii 0 0), (rr 661), (ii 415 0), (ii 0 0), (rr 668), (ii 417 0), (ii 0 0), (rr 675), (ii 424 0), (ii 0 0), (rr 680), (ii 435 0), (ii 0 0), (rr 685), (ii 448 0), (ii 0 0), (rr 692), (ii 458 0), (ii 0 0), (rr 697), (ii 473 0), (ii 0 0), (rr 702)]
noncomputable def o12 : Obj := fld nn e12
noncomputable def o13 : Obj := fld (ty "code") [(ss "<module>" 182), (ss "<module>" 183), (ss "/claim/cut.py" 184), (ii 1 0), (ii 0 0), (ii 0 0), (ii 0 0), (ii 0 0), (rr 11), (bb false), (ii 181 0), (rr 12), nn, nn, nn, nn, (ii 185 0), (ii 1 0), (ss "/claim/cut.py" 186)]
noncomputable def o14 : Obj := ⟨(ty "frame"), none, .plain, [(some (rr 13)), (some (rr 3)), (some (rr 3)), none, (some (ss "__main__" 164)), none, (some (rr 0))].toArray⟩
noncomputable def o15 : Obj := tup []
noncomputable def o16 : Obj := fld nn []
noncomputable def o17 : Obj := tup [(ss "k" 190)]
noncomputable def o18 : Obj := tup []
noncomputable def o19 : Obj := ⟨nn, none, .func (fu "_wall" "_wall" A0 B0 S0 0 nn nn nn nn nn nn 0), #[]⟩
noncomputable def o20 : Obj := fld (ty "code") [(ss "_wall" 187), (ss "_wall" 188), (ss "/claim/cut.py" 189), (ii 1 0), (ii 1 0), (ii 0 0), (ii 0 0), (ii 3 0), (rr 15), (bb true), (ii 181 0), (rr 16), nn, (rr 17), (rr 18), (rr 19), (ii 191 0), (ii 1 0), (ss "/claim/cut.py" 192)]
noncomputable def o21 : Obj := ⟨(ty "function"), none, .func (fu "_wall" "_wall" A0 B0 S0 3 nn nn nn (ss "__main__" 164) (rr 20) nn 0), #[]⟩
noncomputable def o22 : Obj := tup [(ty "Exception")]
noncomputable def o23 : Obj := fld (ty "builtin_function_or_method") [(bi "type.__prepare__"), (ty "type")]
noncomputable def o24 (P : Params) : Obj := dct (ty "dict") [de P "__module__" 203 (ss "emacs.errors" 194), de P "__qualname__" 205 (ss "LispSignal" 204), de P "__firstlineno__" 207 (ii 5 206), de P "__init__" 216 (rr 35), de P "__static_attributes__" 219 (rr 36)] 5
noncomputable def o25 : Obj := tup []
noncomputable def o26 : Obj := fld nn [(ii 7 0), (ii 4 0), (rr 34)]
noncomputable def o27 : Obj := fld (ty "code") [(ss "LispSignal" 198), (ss "LispSignal" 199), (ss "/claim/cut.py" 200), (ii 5 0), (ii 0 0), (ii 0 0), (ii 0 0), (ii 0 0), (rr 25), (bb false), (ii 181 0), (rr 26), nn, nn, nn, nn, (ii 201 0), (ii 5 0), (ss "/claim/cut.py" 202)]
noncomputable def o28 : Obj := ⟨(ty "frame"), none, .plain, [(some (rr 27)), (some (rr 3)), (some (rr 24)), none, (some (ss "emacs.errors" 194)), none, (some (rr 0))].toArray⟩
noncomputable def o29 : Obj := tup []
noncomputable def o30 : Obj := fld nn []
noncomputable def o31 : Obj := tup [(ss "self" 211), (ss "symbol" 212), (ss "data" 213)]
noncomputable def o32 : Obj := tup []
noncomputable def o33 : Obj := ⟨nn, none, .func (fu "__init__" "LispSignal.__init__" A2x0 B2x0 S2x0 0 nn nn nn nn nn nn 0), #[]⟩
noncomputable def o34 : Obj := fld (ty "code") [(ss "__init__" 208), (ss "LispSignal.__init__" 209), (ss "/claim/cut.py" 210), (ii 7 0), (ii 3 0), (ii 0 0), (ii 0 0), (ii 3 0), (rr 29), (bb true), (ii 181 0), (rr 30), nn, (rr 31), (rr 32), (rr 33), (ii 214 0), (ii 7 0), (ss "/claim/cut.py" 215)]
noncomputable def o35 : Obj := ⟨(ty "function"), none, .func (fu "__init__" "LispSignal.__init__" A2x0 B2x0 S2x0 3 nn nn nn (ss "emacs.errors" 194) (rr 34) nn 0), #[]⟩
noncomputable def o36 : Obj := tup [(ss "data" 217), (ss "symbol" 218)]
noncomputable def o37 (P : Params) : Obj := dct (ty "dict") [de P "__module__" 203 (ss "emacs.errors" 194), de P "__firstlineno__" 207 (ii 5 206), de P "__init__" 216 (rr 35), de P "__static_attributes__" 219 (rr 36), de P "__weakref__" 221 (rr 39), de P "__doc__" 222 nn] 3
noncomputable def o38 : Obj := ⟨(ty "type"), none, .cls (cl "LispSignal" [(ty "Exception")] [(rr 38), (ty "Exception"), (ty "BaseException"), (ty "object")] 37 "LispSignal"), [(some (rr 22)), none, (some (ss "LispSignal" 196)), (some (ss "LispSignal" 204)), (some (bi "Exception.__new__")), (some (bb true))].toArray⟩
noncomputable def o39 : Obj := fld (ty "getset_descriptor") [(ss "__weakref__" 220), (rr 38), (bi "ExceptionGroup.__weakref__"), nn]
noncomputable def o40 : Obj := fld (ty "super") [(rr 38), (rr 38), (rr 38)]
noncomputable def o41 : Obj := fld (ty "builtin_function_or_method") [(bi "object.__init_subclass__"), (rr 38)]
noncomputable def o42 : Obj := tup []
noncomputable def o43 : Obj := fld (ty "builtin_function_or_method") [(bi "type.__prepare__"), (ty "type")]
noncomputable def o44 (P : Params) : Obj := dct (ty "dict") [de P "__module__" 236 (ss "emacs.objects" 227), de P "__qualname__" 238 (ss "Symbol" 237), de P "__firstlineno__" 240 (ii 11 239), de P "__init__" 249 (rr 55), de P "__static_attributes__" 253 (rr 56)] 5
noncomputable def o45 : Obj := tup []
noncomputable def o46 : Obj := fld nn [(ii 13 0), (ii 4 0), (rr 54)]
noncomputable def o47 : Obj := fld (ty "code") [(ss "Symbol" 231), (ss "Symbol" 232), (ss "/claim/cut.py" 233), (ii 11 0), (ii 0 0), (ii 0 0), (ii 0 0), (ii 0 0), (rr 45), (bb false), (ii 181 0), (rr 46), nn, nn, nn, nn, (ii 234 0), (ii 11 0), (ss "/claim/cut.py" 235)]
noncomputable def o48 : Obj := ⟨(ty "frame"), none, .plain, [(some (rr 47)), (some (rr 3)), (some (rr 44)), none, (some (ss "emacs.objects" 227)), none, (some (rr 0))].toArray⟩
noncomputable def o49 : Obj := tup []
noncomputable def o50 : Obj := fld nn []
noncomputable def o51 : Obj := tup [(ss "self" 244), (ss "number" 245), (ss "name" 246)]
noncomputable def o52 : Obj := tup []
noncomputable def o53 : Obj := ⟨nn, none, .func (fu "__init__" "Symbol.__init__" A4x0 B4x0 S4x0 0 nn nn nn nn nn nn 0), #[]⟩
noncomputable def o54 : Obj := fld (ty "code") [(ss "__init__" 241), (ss "Symbol.__init__" 242), (ss "/claim/cut.py" 243), (ii 13 0), (ii 3 0), (ii 0 0), (ii 0 0), (ii 3 0), (rr 49), (bb true), (ii 181 0), (rr 50), nn, (rr 51), (rr 52), (rr 53), (ii 247 0), (ii 13 0), (ss "/claim/cut.py" 248)]
noncomputable def o55 : Obj := ⟨(ty "function"), none, .func (fu "__init__" "Symbol.__init__" A4x0 B4x0 S4x0 3 nn nn nn (ss "emacs.objects" 227) (rr 54) nn 0), #[]⟩
noncomputable def o56 : Obj := tup [(ss "is_keyword" 250), (ss "name" 251), (ss "number" 252)]
noncomputable def o57 (P : Params) : Obj := dct (ty "dict") [de P "__module__" 236 (ss "emacs.objects" 227), de P "__firstlineno__" 240 (ii 11 239), de P "__init__" 249 (rr 55), de P "__static_attributes__" 253 (rr 56), de P "__dict__" 255 (rr 59), de P "__weakref__" 257 (rr 60), de P "__doc__" 258 nn] 4
noncomputable def o58 : Obj := ⟨(ty "type"), none, .cls (cl "Symbol" [(ty "object")] [(rr 58), (ty "object")] 57 "Symbol"), [none, none, (some (ss "Symbol" 229)), (some (ss "Symbol" 237)), (some (bi "object.__new__")), (some (bb true))].toArray⟩
noncomputable def o59 : Obj := fld (ty "getset_descriptor") [(ss "__dict__" 254), (rr 58), (bi "function.__dict__"), (bi "function.__dict__#set")]
noncomputable def o60 : Obj := fld (ty "getset_descriptor") [(ss "__weakref__" 256), (rr 58), (bi "ExceptionGroup.__weakref__"), nn]
noncomputable def o61 : Obj := fld (ty "super") [(rr 58), (rr 58), (rr 58)]
noncomputable def o62 : Obj := fld (ty "builtin_function_or_method") [(bi "object.__init_subclass__"), (rr 58)]
noncomputable def o63 (P : Params) : Obj := dct (ty "dict") [de P "number" 267 (ii 0 261), de P "name" 269 (ss "nil" 262), de P "is_keyword" 271 (bb false)] 3
noncomputable def o64 : Obj := ⟨(rr 58), (some 63), .plain, #[]⟩
noncomputable def o65 (P : Params) : Obj := dct (ty "frame") [de P "self" 263 (rr 64), de P "number" 264 (ii 0 261), de P "name" 265 (ss "nil" 262)] 3
noncomputable def o66 : Obj := tup []
noncomputable def o67 : Obj := fld (ty "builtin_function_or_method") [(bi "type.__prepare__"), (ty "type")]
noncomputable def o68 (P : Params) : Obj := dct (ty "dict") [de P "__module__" 280 (ss "emacs.objects" 227), de P "__qualname__" 282 (ss "Cons" 281), de P "__firstlineno__" 284 (ii 18 283), de P "__init__" 293 (rr 79), de P "__static_attributes__" 296 (rr 80)] 5
noncomputable def o69 : Obj := tup []
noncomputable def o70 : Obj := fld nn [(ii 20 0), (ii 4 0), (rr 78)]
noncomputable def o71 : Obj := fld (ty "code") [(ss "Cons" 275), (ss "Cons" 276), (ss "/claim/cut.py" 277), (ii 18 0), (ii 0 0), (ii 0 0), (ii 0 0), (ii 0 0), (rr 69), (bb false), (ii 181 0), (rr 70), nn, nn, nn, nn, (ii 278 0), (ii 18 0), (ss "/claim/cut.py" 279)]
noncomputable def o72 : Obj := ⟨(ty "frame"), none, .plain, [(some (rr 71)), (some (rr 3)), (some (rr 68)), none, (some (ss "emacs.objects" 227)), none, (some (rr 0))].toArray⟩
noncomputable def o73 : Obj := tup []
noncomputable def o74 : Obj := fld nn []
noncomputable def o75 : Obj := tup [(ss "self" 288), (ss "car" 289), (ss "cdr" 290)]
noncomputable def o76 : Obj := tup []
noncomputable def o77 : Obj := ⟨nn, none, .func (fu "__init__" "Cons.__init__" A6x0 B6x0 S6x0 0 nn nn nn nn nn nn 0), #[]⟩
noncomputable def o78 : Obj := fld (ty "code") [(ss "__init__" 285), (ss "Cons.__init__" 286), (ss "/claim/cut.py" 287), (ii 20 0), (ii 3 0), (ii 0 0), (ii 0 0), (ii 3 0), (rr 73), (bb true), (ii 181 0), (rr 74), nn, (rr 75), (rr 76), (rr 77), (ii 291 0), (ii 20 0), (ss "/claim/cut.py" 292)]
noncomputable def o79 : Obj := ⟨(ty "function"), none, .func (fu "__init__" "Cons.__init__" A6x0 B6x0 S6x0 3 nn nn nn (ss "emacs.objects" 227) (rr 78) nn 0), #[]⟩
noncomputable def o80 : Obj := tup [(ss "car" 294), (ss "cdr" 295)]
noncomputable def o81 (P : Params) : Obj := dct (ty "dict") [de P "__module__" 280 (ss "emacs.objects" 227), de P "__firstlineno__" 284 (ii 18 283), de P "__init__" 293 (rr 79), de P "__static_attributes__" 296 (rr 80), de P "__dict__" 298 (rr 83), de P "__weakref__" 300 (rr 84), de P "__doc__" 301 nn] 4
noncomputable def o82 : Obj := ⟨(ty "type"), none, .cls (cl "Cons" [(ty "object")] [(rr 82), (ty "object")] 81 "Cons"), [none, none, (some (ss "Cons" 273)), (some (ss "Cons" 281)), (some (bi "object.__new__")), (some (bb true))].toArray⟩
noncomputable def o83 : Obj := fld (ty "getset_descriptor") [(ss "__dict__" 297), (rr 82), (bi "function.__dict__"), (bi "function.__dict__#set")]
noncomputable def o84 : Obj := fld (ty "getset_descriptor") [(ss "__weakref__" 299), (rr 82), (bi "ExceptionGroup.__weakref__"), nn]
noncomputable def o85 : Obj := fld (ty "super") [(rr 82), (rr 82), (rr 82)]
noncomputable def o86 : Obj := fld (ty "builtin_function_or_method") [(bi "object.__init_subclass__"), (rr 82)]
noncomputable def o87 : Obj := tup []
noncomputable def o88 : Obj := fld (ty "builtin_function_or_method") [(bi "type.__prepare__"), (ty "type")]
noncomputable def o89 (P : Params) : Obj := dct (ty "dict") [de P "__module__" 311 (ss "emacs.objects" 227), de P "__qualname__" 313 (ss "Text" 312), de P "__firstlineno__" 315 (ii 23 314), de P "__init__" 324 (rr 101), de P "__static_attributes__" 327 (rr 102)] 5
noncomputable def o90 : Obj := tup []
noncomputable def o91 : Obj := fld nn [(ii 25 0), (ii 4 0), (rr 100)]
noncomputable def o92 : Obj := fld (ty "code") [(ss "Text" 306), (ss "Text" 307), (ss "/claim/cut.py" 308), (ii 23 0), (ii 0 0), (ii 0 0), (ii 0 0), (ii 0 0), (rr 90), (bb false), (ii 181 0), (rr 91), nn, nn, nn, nn, (ii 309 0), (ii 23 0), (ss "/claim/cut.py" 310)]
noncomputable def o93 : Obj := ⟨(ty "frame"), none, .plain, [(some (rr 92)), (some (rr 3)), (some (rr 89)), none, (some (ss "emacs.objects" 227)), none, (some (rr 0))].toArray⟩
noncomputable def o94 : Obj := tup [nn]
noncomputable def o95 : Obj := tup []
noncomputable def o96 : Obj := fld nn []
noncomputable def o97 : Obj := tup [(ss "self" 319), (ss "codes" 320), (ss "spans" 321)]
noncomputable def o98 : Obj := tup []
noncomputable def o99 : Obj := ⟨nn, none, .func (fu "__init__" "Text.__init__" A7x0 B7x0 S7x0 0 nn nn nn nn nn nn 0), #[]⟩
noncomputable def o100 : Obj := fld (ty "code") [(ss "__init__" 316), (ss "Text.__init__" 317), (ss "/claim/cut.py" 318), (ii 25 0), (ii 3 0), (ii 0 0), (ii 0 0), (ii 3 0), (rr 95), (bb true), (ii 181 0), (rr 96), nn, (rr 97), (rr 98), (rr 99), (ii 322 0), (ii 25 0), (ss "/claim/cut.py" 323)]
noncomputable def o101 : Obj := ⟨(ty "function"), none, .func (fu "__init__" "Text.__init__" A7x0 B7x0 S7x0 3 (rr 94) nn nn (ss "emacs.objects" 227) (rr 100) nn 0), #[]⟩
noncomputable def o102 : Obj := tup [(ss "codes" 325), (ss "spans" 326)]
noncomputable def o103 (P : Params) : Obj := dct (ty "dict") [de P "__module__" 311 (ss "emacs.objects" 227), de P "__firstlineno__" 315 (ii 23 314), de P "__init__" 324 (rr 101), de P "__static_attributes__" 327 (rr 102), de P "__dict__" 329 (rr 105), de P "__weakref__" 331 (rr 106), de P "__doc__" 332 nn] 4
noncomputable def o104 : Obj := ⟨(ty "type"), none, .cls (cl "Text" [(ty "object")] [(rr 104), (ty "object")] 103 "Text"), [none, none, (some (ss "Text" 304)), (some (ss "Text" 312)), (some (bi "object.__new__")), (some (bb true))].toArray⟩
noncomputable def o105 : Obj := fld (ty "getset_descriptor") [(ss "__dict__" 328), (rr 104), (bi "function.__dict__"), (bi "function.__dict__#set")]
noncomputable def o106 : Obj := fld (ty "getset_descriptor") [(ss "__weakref__" 330), (rr 104), (bi "ExceptionGroup.__weakref__"), nn]
noncomputable def o107 : Obj := fld (ty "super") [(rr 104), (rr 104), (rr 104)]
noncomputable def o108 : Obj := fld (ty "builtin_function_or_method") [(bi "object.__init_subclass__"), (rr 104)]
noncomputable def o109 : Obj := tup []
noncomputable def o110 : Obj := fld (ty "builtin_function_or_method") [(bi "type.__prepare__"), (ty "type")]
noncomputable def o111 (P : Params) : Obj := dct (ty "dict") [de P "__module__" 342 (ss "emacs.objects" 227), de P "__qualname__" 344 (ss "Vector" 343), de P "__firstlineno__" 346 (ii 28 345), de P "__init__" 354 (rr 122), de P "__static_attributes__" 356 (rr 123)] 5
noncomputable def o112 : Obj := tup []
noncomputable def o113 : Obj := fld nn [(ii 30 0), (ii 4 0), (rr 121)]
noncomputable def o114 : Obj := fld (ty "code") [(ss "Vector" 337), (ss "Vector" 338), (ss "/claim/cut.py" 339), (ii 28 0), (ii 0 0), (ii 0 0), (ii 0 0), (ii 0 0), (rr 112), (bb false), (ii 181 0), (rr 113), nn, nn, nn, nn, (ii 340 0), (ii 28 0), (ss "/claim/cut.py" 341)]
noncomputable def o115 : Obj := ⟨(ty "frame"), none, .plain, [(some (rr 114)), (some (rr 3)), (some (rr 111)), none, (some (ss "emacs.objects" 227)), none, (some (rr 0))].toArray⟩
noncomputable def o116 : Obj := tup []
noncomputable def o117 : Obj := fld nn []
noncomputable def o118 : Obj := tup [(ss "self" 350), (ss "things" 351)]
noncomputable def o119 : Obj := tup []
noncomputable def o120 : Obj := ⟨nn, none, .func (fu "__init__" "Vector.__init__" A8x0 B8x0 S8x0 0 nn nn nn nn nn nn 0), #[]⟩
noncomputable def o121 : Obj := fld (ty "code") [(ss "__init__" 347), (ss "Vector.__init__" 348), (ss "/claim/cut.py" 349), (ii 30 0), (ii 2 0), (ii 0 0), (ii 0 0), (ii 3 0), (rr 116), (bb true), (ii 181 0), (rr 117), nn, (rr 118), (rr 119), (rr 120), (ii 352 0), (ii 30 0), (ss "/claim/cut.py" 353)]
noncomputable def o122 : Obj := ⟨(ty "function"), none, .func (fu "__init__" "Vector.__init__" A8x0 B8x0 S8x0 3 nn nn nn (ss "emacs.objects" 227) (rr 121) nn 0), #[]⟩
noncomputable def o123 : Obj := tup [(ss "things" 355)]
noncomputable def o124 (P : Params) : Obj := dct (ty "dict") [de P "__module__" 342 (ss "emacs.objects" 227), de P "__firstlineno__" 346 (ii 28 345), de P "__init__" 354 (rr 122), de P "__static_attributes__" 356 (rr 123), de P "__dict__" 358 (rr 126), de P "__weakref__" 360 (rr 127), de P "__doc__" 361 nn] 4
noncomputable def o125 : Obj := ⟨(ty "type"), none, .cls (cl "Vector" [(ty "object")] [(rr 125), (ty "object")] 124 "Vector"), [none, none, (some (ss "Vector" 335)), (some (ss "Vector" 343)), (some (bi "object.__new__")), (some (bb true))].toArray⟩
noncomputable def o126 : Obj := fld (ty "getset_descriptor") [(ss "__dict__" 357), (rr 125), (bi "function.__dict__"), (bi "function.__dict__#set")]
noncomputable def o127 : Obj := fld (ty "getset_descriptor") [(ss "__weakref__" 359), (rr 125), (bi "ExceptionGroup.__weakref__"), nn]
noncomputable def o128 : Obj := fld (ty "super") [(rr 125), (rr 125), (rr 125)]
noncomputable def o129 : Obj := fld (ty "builtin_function_or_method") [(bi "object.__init_subclass__"), (rr 125)]
noncomputable def o130 : Obj := tup []
noncomputable def o131 : Obj := fld (ty "builtin_function_or_method") [(bi "type.__prepare__"), (ty "type")]
noncomputable def o132 (P : Params) : Obj := dct (ty "dict") [de P "__module__" 371 (ss "emacs.objects" 227), de P "__qualname__" 373 (ss "ByteCode" 372), de P "__firstlineno__" 375 (ii 32 374), de P "__init__" 383 (rr 143), de P "__static_attributes__" 385 (rr 144)] 5
noncomputable def o133 : Obj := tup []
noncomputable def o134 : Obj := fld nn [(ii 34 0), (ii 4 0), (rr 142)]
noncomputable def o135 : Obj := fld (ty "code") [(ss "ByteCode" 366), (ss "ByteCode" 367), (ss "/claim/cut.py" 368), (ii 32 0), (ii 0 0), (ii 0 0), (ii 0 0), (ii 0 0), (rr 133), (bb false), (ii 181 0), (rr 134), nn, nn, nn, nn, (ii 369 0), (ii 32 0), (ss "/claim/cut.py" 370)]
noncomputable def o136 : Obj := ⟨(ty "frame"), none, .plain, [(some (rr 135)), (some (rr 3)), (some (rr 132)), none, (some (ss "emacs.objects" 227)), none, (some (rr 0))].toArray⟩
noncomputable def o137 : Obj := tup []
noncomputable def o138 : Obj := fld nn []
noncomputable def o139 : Obj := tup [(ss "self" 379), (ss "things" 380)]
noncomputable def o140 : Obj := tup []
noncomputable def o141 : Obj := ⟨nn, none, .func (fu "__init__" "ByteCode.__init__" A9x0 B9x0 S9x0 0 nn nn nn nn nn nn 0), #[]⟩
noncomputable def o142 : Obj := fld (ty "code") [(ss "__init__" 376), (ss "ByteCode.__init__" 377), (ss "/claim/cut.py" 378), (ii 34 0), (ii 2 0), (ii 0 0), (ii 0 0), (ii 3 0), (rr 137), (bb true), (ii 181 0), (rr 138), nn, (rr 139), (rr 140), (rr 141), (ii 381 0), (ii 34 0), (ss "/claim/cut.py" 382)]
noncomputable def o143 : Obj := ⟨(ty "function"), none, .func (fu "__init__" "ByteCode.__init__" A9x0 B9x0 S9x0 3 nn nn nn (ss "emacs.objects" 227) (rr 142) nn 0), #[]⟩
noncomputable def o144 : Obj := tup [(ss "things" 384)]
noncomputable def o145 (P : Params) : Obj := dct (ty "dict") [de P "__module__" 371 (ss "emacs.objects" 227), de P "__firstlineno__" 375 (ii 32 374), de P "__init__" 383 (rr 143), de P "__static_attributes__" 385 (rr 144), de P "__dict__" 387 (rr 147), de P "__weakref__" 389 (rr 148), de P "__doc__" 390 nn] 4
noncomputable def o146 : Obj := ⟨(ty "type"), none, .cls (cl "ByteCode" [(ty "object")] [(rr 146), (ty "object")] 145 "ByteCode"), [none, none, (some (ss "ByteCode" 364)), (some (ss "ByteCode" 372)), (some (bi "object.__new__")), (some (bb true))].toArray⟩
noncomputable def o147 : Obj := fld (ty "getset_descriptor") [(ss "__dict__" 386), (rr 146), (bi "function.__dict__"), (bi "function.__dict__#set")]
noncomputable def o148 : Obj := fld (ty "getset_descriptor") [(ss "__weakref__" 388), (rr 146), (bi "ExceptionGroup.__weakref__"), nn]
noncomputable def o149 : Obj := fld (ty "super") [(rr 146), (rr 146), (rr 146)]
noncomputable def o150 : Obj := fld (ty "builtin_function_or_method") [(bi "object.__init_subclass__"), (rr 146)]
noncomputable def o151 : Obj := tup []
noncomputable def o152 : Obj := fld (ty "builtin_function_or_method") [(bi "type.__prepare__"), (ty "type")]
noncomputable def o153 (P : Params) : Obj := dct (ty "dict") [de P "__module__" 400 (ss "emacs.objects" 227), de P "__qualname__" 402 (ss "Opaque" 401), de P "__firstlineno__" 404 (ii 36 403), de P "shown" 411 (rr 164), de P "kind" 418 (rr 171), de P "same_as" 426 (rr 178), de P "__static_attributes__" 427 (rr 179)] 7
noncomputable def o154 : Obj := tup []
noncomputable def o155 : Obj := fld nn [(ii 38 0), (ii 4 0), (rr 163), (ii 41 0), (ii 4 0), (rr 170), (ii 44 0), (ii 4 0), (rr 177)]
noncomputable def o156 : Obj := fld (ty "code") [(ss "Opaque" 395), (ss "Opaque" 396), (ss "/claim/cut.py" 397), (ii 36 0), (ii 0 0), (ii 0 0), (ii 0 0), (ii 0 0), (rr 154), (bb false), (ii 181 0), (rr 155), nn, nn, nn, nn, (ii 398 0), (ii 36 0), (ss "/claim/cut.py" 399)]
noncomputable def o157 : Obj := ⟨(ty "frame"), none, .plain, [(some (rr 156)), (some (rr 3)), (some (rr 153)), none, (some (ss "emacs.objects" 227)), none, (some (rr 0))].toArray⟩
noncomputable def o158 : Obj := tup []
noncomputable def o159 : Obj := fld nn []
noncomputable def o160 : Obj := tup [(ss "self" 408)]
noncomputable def o161 : Obj := tup []
noncomputable def o162 : Obj := ⟨nn, none, .func (fu "shown" "Opaque.shown" A10x0 B10x0 S10x0 0 nn nn nn nn nn nn 0), #[]⟩
noncomputable def o163 : Obj := fld (ty "code") [(ss "shown" 405), (ss "Opaque.shown" 406), (ss "/claim/cut.py" 407), (ii 38 0), (ii 1 0), (ii 0 0), (ii 0 0), (ii 3 0), (rr 158), (bb true), (ii 181 0), (rr 159), nn, (rr 160), (rr 161), (rr 162), (ii 409 0), (ii 38 0), (ss "/claim/cut.py" 410)]
noncomputable def o164 : Obj := ⟨(ty "function"), none, .func (fu "shown" "Opaque.shown" A10x0 B10x0 S10x0 3 nn nn nn (ss "emacs.objects" 227) (rr 163) nn 0), #[]⟩
noncomputable def o165 : Obj := tup []
noncomputable def o166 : Obj := fld nn []
noncomputable def o167 : Obj := tup [(ss "self" 415)]
noncomputable def o168 : Obj := tup []
noncomputable def o169 : Obj := ⟨nn, none, .func (fu "kind" "Opaque.kind" A10x1 B10x1 S10x1 0 nn nn nn nn nn nn 0), #[]⟩
noncomputable def o170 : Obj := fld (ty "code") [(ss "kind" 412), (ss "Opaque.kind" 413), (ss "/claim/cut.py" 414), (ii 41 0), (ii 1 0), (ii 0 0), (ii 0 0), (ii 3 0), (rr 165), (bb true), (ii 181 0), (rr 166), nn, (rr 167), (rr 168), (rr 169), (ii 416 0), (ii 41 0), (ss "/claim/cut.py" 417)]
noncomputable def o171 : Obj := ⟨(ty "function"), none, .func (fu "kind" "Opaque.kind" A10x1 B10x1 S10x1 3 nn nn nn (ss "emacs.objects" 227) (rr 170) nn 0), #[]⟩
noncomputable def o172 : Obj := tup []
noncomputable def o173 : Obj := fld nn []
noncomputable def o174 : Obj := tup [(ss "self" 422), (ss "other" 423)]
noncomputable def o175 : Obj := tup []
noncomputable def o176 : Obj := ⟨nn, none, .func (fu "same_as" "Opaque.same_as" A10x2 B10x2 S10x2 0 nn nn nn nn nn nn 0), #[]⟩
noncomputable def o177 : Obj := fld (ty "code") [(ss "same_as" 419), (ss "Opaque.same_as" 420), (ss "/claim/cut.py" 421), (ii 44 0), (ii 2 0), (ii 0 0), (ii 0 0), (ii 3 0), (rr 172), (bb true), (ii 181 0), (rr 173), nn, (rr 174), (rr 175), (rr 176), (ii 424 0), (ii 44 0), (ss "/claim/cut.py" 425)]
noncomputable def o178 : Obj := ⟨(ty "function"), none, .func (fu "same_as" "Opaque.same_as" A10x2 B10x2 S10x2 3 nn nn nn (ss "emacs.objects" 227) (rr 177) nn 0), #[]⟩
noncomputable def o179 : Obj := tup []
noncomputable def o180 (P : Params) : Obj := dct (ty "dict") [de P "__module__" 400 (ss "emacs.objects" 227), de P "__firstlineno__" 404 (ii 36 403), de P "shown" 411 (rr 164), de P "kind" 418 (rr 171), de P "same_as" 426 (rr 178), de P "__static_attributes__" 427 (rr 179), de P "__dict__" 429 (rr 182), de P "__weakref__" 431 (rr 183), de P "__doc__" 432 nn] 4
noncomputable def o181 : Obj := ⟨(ty "type"), none, .cls (cl "Opaque" [(ty "object")] [(rr 181), (ty "object")] 180 "Opaque"), [none, none, (some (ss "Opaque" 393)), (some (ss "Opaque" 401)), (some (bi "object.__new__")), (some (bb true))].toArray⟩
noncomputable def o182 : Obj := fld (ty "getset_descriptor") [(ss "__dict__" 428), (rr 181), (bi "function.__dict__"), (bi "function.__dict__#set")]
noncomputable def o183 : Obj := fld (ty "getset_descriptor") [(ss "__weakref__" 430), (rr 181), (bi "ExceptionGroup.__weakref__"), nn]
noncomputable def o184 : Obj := fld (ty "super") [(rr 181), (rr 181), (rr 181)]
noncomputable def o185 : Obj := fld (ty "builtin_function_or_method") [(bi "object.__init_subclass__"), (rr 181)]
noncomputable def o186 : Obj := tup [(rr 64)]
noncomputable def o187 : Obj := tup []
noncomputable def o188 : Obj := fld nn []
noncomputable def o189 : Obj := tup [(ss "things" 438), (ss "tail" 439), (ss "found" 440), (ss "place" 441)]
noncomputable def o190 : Obj := tup []
noncomputable def o191 : Obj := ⟨nn, none, .func (fu "list_of" "list_of" A11 B11 S11 0 nn nn nn nn nn nn 0), #[]⟩
noncomputable def o192 : Obj := fld (ty "code") [(ss "list_of" 435), (ss "list_of" 436), (ss "/claim/cut.py" 437), (ii 46 0), (ii 2 0), (ii 0 0), (ii 0 0), (ii 3 0), (rr 187), (bb true), (ii 181 0), (rr 188), nn, (rr 189), (rr 190), (rr 191), (ii 442 0), (ii 46 0), (ss "/claim/cut.py" 443)]
noncomputable def o193 : Obj := ⟨(ty "function"), none, .func (fu "list_of" "list_of" A11 B11 S11 3 (rr 186) nn nn (ss "emacs.objects" 227) (rr 192) nn 0), #[]⟩
noncomputable def o194 : Obj := tup []
noncomputable def o195 : Obj := fld nn []
noncomputable def o196 : Obj := tup [(ss "datum" 448), (ss "things" 449), (ss "at" 450), (ss "slow" 451)]
noncomputable def o197 : Obj := tup []
noncomputable def o198 : Obj := ⟨nn, none, .func (fu "split_list" "split_list" A12 B12 S12 0 nn nn nn nn nn nn 0), #[]⟩
noncomputable def o199 : Obj := fld (ty "code") [(ss "split_list" 445), (ss "split_list" 446), (ss "/claim/cut.py" 447), (ii 51 0), (ii 1 0), (ii 0 0), (ii 0 0), (ii 3 0), (rr 194), (bb true), (ii 181 0), (rr 195), nn, (rr 196), (rr 197), (rr 198), (ii 452 0), (ii 51 0), (ss "/claim/cut.py" 453)]
noncomputable def o200 : Obj := ⟨(ty "function"), none, .func (fu "split_list" "split_list" A12 B12 S12 3 nn nn nn (ss "emacs.objects" 227) (rr 199) nn 0), #[]⟩
noncomputable def o201 : Obj := tup []
noncomputable def o202 : Obj := fld nn []
noncomputable def o203 : Obj := tup [(ss "datum" 458), (ss "things" 459), (ss "tail" 460)]
noncomputable def o204 : Obj := tup []
noncomputable def o205 : Obj := ⟨nn, none, .func (fu "items_of" "items_of" A13 B13 S13 0 nn nn nn nn nn nn 0), #[]⟩
noncomputable def o206 : Obj := fld (ty "code") [(ss "items_of" 455), (ss "items_of" 456), (ss "/claim/cut.py" 457), (ii 63 0), (ii 1 0), (ii 0 0), (ii 0 0), (ii 3 0), (rr 201), (bb true), (ii 181 0), (rr 202), nn, (rr 203), (rr 204), (rr 205), (ii 461 0), (ii 63 0), (ss "/claim/cut.py" 462)]
noncomputable def o207 : Obj := ⟨(ty "function"), none, .func (fu "items_of" "items_of" A13 B13 S13 3 nn nn nn (ss "emacs.objects" 227) (rr 206) nn 0), #[]⟩
noncomputable def o208 : Obj := tup []
noncomputable def o209 : Obj := fld nn []
noncomputable def o210 : Obj := tup [(ss "datum" 467)]
noncomputable def o211 : Obj := tup []
noncomputable def o212 : Obj := ⟨nn, none, .func (fu "is_whole" "is_whole" A14 B14 S14 0 nn nn nn nn nn nn 0), #[]⟩
noncomputable def o213 : Obj := fld (ty "code") [(ss "is_whole" 464), (ss "is_whole" 465), (ss "/claim/cut.py" 466), (ii 66 0), (ii 1 0), (ii 0 0), (ii 0 0), (ii 3 0), (rr 208), (bb true), (ii 181 0), (rr 209), nn, (rr 210), (rr 211), (rr 212), (ii 468 0), (ii 66 0), (ss "/claim/cut.py" 469)]
noncomputable def o214 : Obj := ⟨(ty "function"), none, .func (fu "is_whole" "is_whole" A14 B14 S14 3 nn nn nn (ss "emacs.objects" 227) (rr 213) nn 0), #[]⟩
noncomputable def o215 : Obj := tup []
noncomputable def o216 : Obj := fld nn []
noncomputable def o217 : Obj := tup [(ss "datum" 474)]
noncomputable def o218 : Obj := tup []
noncomputable def o219 : Obj := ⟨nn, none, .func (fu "is_list" "is_list" A15 B15 S15 0 nn nn nn nn nn nn 0), #[]⟩
noncomputable def o220 : Obj := fld (ty "code") [(ss "is_list" 471), (ss "is_list" 472), (ss "/claim/cut.py" 473), (ii 68 0), (ii 1 0), (ii 0 0), (ii 0 0), (ii 3 0), (rr 215), (bb true), (ii 181 0), (rr 216), nn, (rr 217), (rr 218), (rr 219), (ii 475 0), (ii 68 0), (ss "/claim/cut.py" 476)]
noncomputable def o221 : Obj := ⟨(ty "function"), none, .func (fu "is_list" "is_list" A15 B15 S15 3 nn nn nn (ss "emacs.objects" 227) (rr 220) nn 0), #[]⟩
noncomputable def o222 : Obj := tup []
noncomputable def o223 : Obj := fld nn []
noncomputable def o224 : Obj := tup [(ss "name" 487), (ss "value" 488)]
noncomputable def o225 : Obj := tup []
noncomputable def o226 : Obj := ⟨nn, none, .func (fu "wrong" "wrong" A18 B18 S18 0 nn nn nn nn nn nn 0), #[]⟩
noncomputable def o227 : Obj := fld (ty "code") [(ss "wrong" 484), (ss "wrong" 485), (ss "/claim/cut.py" 486), (ii 72 0), (ii 2 0), (ii 0 0), (ii 0 0), (ii 3 0), (rr 222), (bb true), (ii 181 0), (rr 223), nn, (rr 224), (rr 225), (rr 226), (ii 489 0), (ii 72 0), (ss "/claim/cut.py" 490)]
noncomputable def o228 : Obj := ⟨(ty "function"), none, .func (fu "wrong" "wrong" A18 B18 S18 3 nn nn nn (ss "emacs.dataprims" 478) (rr 227) nn 0), #[]⟩
noncomputable def o229 : Obj := tup []
noncomputable def o230 : Obj := fld nn []
noncomputable def o231 : Obj := tup [(ss "value" 495)]
noncomputable def o232 : Obj := tup []
noncomputable def o233 : Obj := ⟨nn, none, .func (fu "need_list" "need_list" A19 B19 S19 0 nn nn nn nn nn nn 0), #[]⟩
noncomputable def o234 : Obj := fld (ty "code") [(ss "need_list" 492), (ss "need_list" 493), (ss "/claim/cut.py" 494), (ii 74 0), (ii 1 0), (ii 0 0), (ii 0 0), (ii 3 0), (rr 229), (bb true), (ii 181 0), (rr 230), nn, (rr 231), (rr 232), (rr 233), (ii 496 0), (ii 74 0), (ss "/claim/cut.py" 497)]
noncomputable def o235 : Obj := ⟨(ty "function"), none, .func (fu "need_list" "need_list" A19 B19 S19 3 nn nn nn (ss "emacs.dataprims" 478) (rr 234) nn 0), #[]⟩
noncomputable def o236 : Obj := tup []
noncomputable def o237 : Obj := fld nn []
noncomputable def o238 : Obj := tup [(ss "value" 502)]
noncomputable def o239 : Obj := tup []
noncomputable def o240 : Obj := ⟨nn, none, .func (fu "need_whole" "need_whole" A20 B20 S20 0 nn nn nn nn nn nn 0), #[]⟩
noncomputable def o241 : Obj := fld (ty "code") [(ss "need_whole" 499), (ss "need_whole" 500), (ss "/claim/cut.py" 501), (ii 78 0), (ii 1 0), (ii 0 0), (ii 0 0), (ii 3 0), (rr 236), (bb true), (ii 181 0), (rr 237), nn, (rr 238), (rr 239), (rr 240), (ii 503 0), (ii 78 0), (ss "/claim/cut.py" 504)]
noncomputable def o242 : Obj := ⟨(ty "function"), none, .func (fu "need_whole" "need_whole" A20 B20 S20 3 nn nn nn (ss "emacs.dataprims" 478) (rr 241) nn 0), #[]⟩
noncomputable def o243 : Obj := tup []
noncomputable def o244 : Obj := fld nn []
noncomputable def o245 : Obj := tup [(ss "many" 509)]
noncomputable def o246 : Obj := tup []
noncomputable def o247 : Obj := ⟨nn, none, .func (fu "need_bounded" "need_bounded" A21 B21 S21 0 nn nn nn nn nn nn 0), #[]⟩
noncomputable def o248 : Obj := fld (ty "code") [(ss "need_bounded" 506), (ss "need_bounded" 507), (ss "/claim/cut.py" 508), (ii 82 0), (ii 1 0), (ii 0 0), (ii 0 0), (ii 3 0), (rr 243), (bb true), (ii 181 0), (rr 244), nn, (rr 245), (rr 246), (rr 247), (ii 510 0), (ii 82 0), (ss "/claim/cut.py" 511)]
noncomputable def o249 : Obj := ⟨(ty "function"), none, .func (fu "need_bounded" "need_bounded" A21 B21 S21 3 nn nn nn (ss "emacs.dataprims" 478) (rr 248) nn 0), #[]⟩
noncomputable def o250 : Obj := tup []
noncomputable def o251 : Obj := fld nn []
noncomputable def o252 : Obj := tup [(ss "value" 516), (ss "things" 517), (ss "tail" 518)]
noncomputable def o253 : Obj := tup []
noncomputable def o254 : Obj := ⟨nn, none, .func (fu "things_of" "things_of" A22 B22 S22 0 nn nn nn nn nn nn 0), #[]⟩
noncomputable def o255 : Obj := fld (ty "code") [(ss "things_of" 513), (ss "things_of" 514), (ss "/claim/cut.py" 515), (ii 86 0), (ii 1 0), (ii 0 0), (ii 0 0), (ii 3 0), (rr 250), (bb true), (ii 181 0), (rr 251), nn, (rr 252), (rr 253), (rr 254), (ii 519 0), (ii 86 0), (ss "/claim/cut.py" 520)]
noncomputable def o256 : Obj := ⟨(ty "function"), none, .func (fu "things_of" "things_of" A22 B22 S22 3 nn nn nn (ss "emacs.dataprims" 478) (rr 255) nn 0), #[]⟩
noncomputable def o257 : Obj := tup []
noncomputable def o258 : Obj := fld nn []
noncomputable def o259 : Obj := tup [(ss "value" 525)]
noncomputable def o260 : Obj := tup []
noncomputable def o261 : Obj := ⟨nn, none, .func (fu "car_of" "car_of" A23 B23 S23 0 nn nn nn nn nn nn 0), #[]⟩
noncomputable def o262 : Obj := fld (ty "code") [(ss "car_of" 522), (ss "car_of" 523), (ss "/claim/cut.py" 524), (ii 94 0), (ii 1 0), (ii 0 0), (ii 0 0), (ii 3 0), (rr 257), (bb true), (ii 181 0), (rr 258), nn, (rr 259), (rr 260), (rr 261), (ii 526 0), (ii 94 0), (ss "/claim/cut.py" 527)]
noncomputable def o263 : Obj := ⟨(ty "function"), none, .func (fu "car_of" "car_of" A23 B23 S23 3 nn nn nn (ss "emacs.dataprims" 478) (rr 262) nn 0), #[]⟩
noncomputable def o264 : Obj := tup []
noncomputable def o265 : Obj := fld nn []
noncomputable def o266 : Obj := tup [(ss "value" 532)]
noncomputable def o267 : Obj := tup []
noncomputable def o268 : Obj := ⟨nn, none, .func (fu "cdr_of" "cdr_of" A24 B24 S24 0 nn nn nn nn nn nn 0), #[]⟩
noncomputable def o269 : Obj := fld (ty "code") [(ss "cdr_of" 529), (ss "cdr_of" 530), (ss "/claim/cut.py" 531), (ii 96 0), (ii 1 0), (ii 0 0), (ii 0 0), (ii 3 0), (rr 264), (bb true), (ii 181 0), (rr 265), nn, (rr 266), (rr 267), (rr 268), (ii 533 0), (ii 96 0), (ss "/claim/cut.py" 534)]
noncomputable def o270 : Obj := ⟨(ty "function"), none, .func (fu "cdr_of" "cdr_of" A24 B24 S24 3 nn nn nn (ss "emacs.dataprims" 478) (rr 269) nn 0), #[]⟩
noncomputable def o271 : Obj := tup []
noncomputable def o272 : Obj := fld nn []
noncomputable def o273 : Obj := tup [(ss "world" 539), (ss "args" 540), (ss "things" 541)]
noncomputable def o274 : Obj := tup []
noncomputable def o275 : Obj := ⟨nn, none, .func (fu "lisp_proper_list_p" "lisp_proper_list_p" A25 B25 S25 0 nn nn nn nn nn nn 0), #[]⟩
noncomputable def o276 : Obj := fld (ty "code") [(ss "lisp_proper_list_p" 536), (ss "lisp_proper_list_p" 537), (ss "/claim/cut.py" 538), (ii 98 0), (ii 2 0), (ii 0 0), (ii 0 0), (ii 3 0), (rr 271), (bb true), (ii 181 0), (rr 272), nn, (rr 273), (rr 274), (rr 275), (ii 542 0), (ii 98 0), (ss "/claim/cut.py" 543)]
noncomputable def o277 : Obj := ⟨(ty "function"), none, .func (fu "lisp_proper_list_p" "lisp_proper_list_p" A25 B25 S25 3 nn nn nn (ss "emacs.dataprims" 478) (rr 276) nn 0), #[]⟩
noncomputable def o278 : Obj := tup []
noncomputable def o279 : Obj := fld nn []
noncomputable def o280 : Obj := tup [(ss "one" 556), (ss "other" 557)]
noncomputable def o281 : Obj := tup []
noncomputable def o282 : Obj := ⟨nn, none, .func (fu "eq" "eq" A29 B29 S29 0 nn nn nn nn nn nn 0), #[]⟩
noncomputable def o283 : Obj := fld (ty "code") [(ss "eq" 553), (ss "eq" 554), (ss "/claim/cut.py" 555), (ii 104 0), (ii 2 0), (ii 0 0), (ii 0 0), (ii 3 0), (rr 278), (bb true), (ii 181 0), (rr 279), nn, (rr 280), (rr 281), (rr 282), (ii 558 0), (ii 104 0), (ss "/claim/cut.py" 559)]
noncomputable def o284 : Obj := ⟨(ty "function"), none, .func (fu "eq" "eq" A29 B29 S29 3 nn nn nn (ss "emacs.equality" 545) (rr 283) nn 0), #[]⟩
noncomputable def o285 : Obj := tup []
noncomputable def o286 : Obj := fld nn []
noncomputable def o287 : Obj := tup [(ss "one" 564), (ss "other" 565)]
noncomputable def o288 : Obj := tup []
noncomputable def o289 : Obj := ⟨nn, none, .func (fu "eql" "eql" A30 B30 S30 0 nn nn nn nn nn nn 0), #[]⟩
noncomputable def o290 : Obj := fld (ty "code") [(ss "eql" 561), (ss "eql" 562), (ss "/claim/cut.py" 563), (ii 108 0), (ii 2 0), (ii 0 0), (ii 0 0), (ii 3 0), (rr 285), (bb true), (ii 181 0), (rr 286), nn, (rr 287), (rr 288), (rr 289), (ii 566 0), (ii 108 0), (ss "/claim/cut.py" 567)]
noncomputable def o291 : Obj := ⟨(ty "function"), none, .func (fu "eql" "eql" A30 B30 S30 3 nn nn nn (ss "emacs.equality" 545) (rr 290) nn 0), #[]⟩
noncomputable def o292 : Obj := tup []
noncomputable def o293 : Obj := fld nn []
noncomputable def o294 : Obj := ⟨nn, none, .func (fu "parts_of" "parts_of" A31 B31 S31 0 nn nn nn nn nn nn 0), #[]⟩
noncomputable def o295 : Obj := fld (ty "code") [(ss "parts_of" 569), (ss "parts_of" 570), (ss "/claim/cut.py" 571), (ii 110 0), (ii 2 0), (ii 0 0), (ii 0 0), (ii 3 0), (rr 292), (bb true), (ii 181 0), (rr 293), nn, nn, nn, (rr 294), (ii 572 0), (ii 110 0), (ss "/claim/cut.py" 573)]
noncomputable def o296 : Obj := ⟨(ty "function"), none, .func (fu "parts_of" "parts_of" A31 B31 S31 3 nn nn nn (ss "emacs.equality" 545) (rr 295) nn 0), #[]⟩
noncomputable def o297 : Obj := tup []
noncomputable def o298 : Obj := fld nn []
noncomputable def o299 : Obj := tup [(ss "one" 578), (ss "other" 579), (ss "word" 580)]
noncomputable def o300 : Obj := tup []
noncomputable def o301 : Obj := ⟨nn, none, .func (fu "are_of_one_class" "are_of_one_class" A32 B32 S32 0 nn nn nn nn nn nn 0), #[]⟩
noncomputable def o302 : Obj := fld (ty "code") [(ss "are_of_one_class" 575), (ss "are_of_one_class" 576), (ss "/claim/cut.py" 577), (ii 118 0), (ii 2 0), (ii 0 0), (ii 0 0), (ii 3 0), (rr 297), (bb true), (ii 181 0), (rr 298), nn, (rr 299), (rr 300), (rr 301), (ii 581 0), (ii 118 0), (ss "/claim/cut.py" 582)]
noncomputable def o303 : Obj := ⟨(ty "function"), none, .func (fu "are_of_one_class" "are_of_one_class" A32 B32 S32 3 nn nn nn (ss "emacs.equality" 545) (rr 302) nn 0), #[]⟩
noncomputable def o304 : Obj := tup []
noncomputable def o305 : Obj := fld (ty "builtin_function_or_method") [(bi "type.__prepare__"), (ty "type")]
noncomputable def o306 (P : Params) : Obj := dct (ty "dict") [de P "__module__" 591 (ss "emacs.equality" 545), de P "__qualname__" 593 (ss "Task" 592), de P "__firstlineno__" 595 (ii 123 594), de P "__init__" 605 (rr 317), de P "is_round" 612 (rr 324), de P "go_on" 619 (rr 331), de P "__static_attributes__" 626 (rr 332)] 7
noncomputable def o307 : Obj := tup []
noncomputable def o308 : Obj := fld nn [(ii 125 0), (ii 4 0), (rr 316), (ii 133 0), (ii 4 0), (rr 323), (ii 136 0), (ii 4 0), (rr 330)]
noncomputable def o309 : Obj := fld (ty "code") [(ss "Task" 586), (ss "Task" 587), (ss "/claim/cut.py" 588), (ii 123 0), (ii 0 0), (ii 0 0), (ii 0 0), (ii 0 0), (rr 307), (bb false), (ii 181 0), (rr 308), nn, nn, nn, nn, (ii 589 0), (ii 123 0), (ss "/claim/cut.py" 590)]
noncomputable def o310 : Obj := ⟨(ty "frame"), none, .plain, [(some (rr 309)), (some (rr 3)), (some (rr 306)), none, (some (ss "emacs.equality" 545)), none, (some (rr 0))].toArray⟩
noncomputable def o311 : Obj := tup []
noncomputable def o312 : Obj := fld nn []
noncomputable def o313 : Obj := tup [(ss "self" 599), (ss "left" 600), (ss "right" 601), (ss "deep" 602)]
noncomputable def o314 : Obj := tup []
noncomputable def o315 : Obj := ⟨nn, none, .func (fu "__init__" "Task.__init__" A33x0 B33x0 S33x0 0 nn nn nn nn nn nn 0), #[]⟩
noncomputable def o316 : Obj := fld (ty "code") [(ss "__init__" 596), (ss "Task.__init__" 597), (ss "/claim/cut.py" 598), (ii 125 0), (ii 4 0), (ii 0 0), (ii 0 0), (ii 3 0), (rr 311), (bb true), (ii 181 0), (rr 312), nn, (rr 313), (rr 314), (rr 315), (ii 603 0), (ii 125 0), (ss "/claim/cut.py" 604)]
noncomputable def o317 : Obj := ⟨(ty "function"), none, .func (fu "__init__" "Task.__init__" A33x0 B33x0 S33x0 3 nn nn nn (ss "emacs.equality" 545) (rr 316) nn 0), #[]⟩
noncomputable def o318 : Obj := tup []
noncomputable def o319 : Obj := fld nn []
noncomputable def o320 : Obj := tup [(ss "self" 609)]
noncomputable def o321 : Obj := tup []
noncomputable def o322 : Obj := ⟨nn, none, .func (fu "is_round" "Task.is_round" A33x1 B33x1 S33x1 0 nn nn nn nn nn nn 0), #[]⟩
noncomputable def o323 : Obj := fld (ty "code") [(ss "is_round" 606), (ss "Task.is_round" 607), (ss "/claim/cut.py" 608), (ii 133 0), (ii 1 0), (ii 0 0), (ii 0 0), (ii 3 0), (rr 318), (bb true), (ii 181 0), (rr 319), nn, (rr 320), (rr 321), (rr 322), (ii 610 0), (ii 133 0), (ss "/claim/cut.py" 611)]
noncomputable def o324 : Obj := ⟨(ty "function"), none, .func (fu "is_round" "Task.is_round" A33x1 B33x1 S33x1 3 nn nn nn (ss "emacs.equality" 545) (rr 323) nn 0), #[]⟩
noncomputable def o325 : Obj := tup []
noncomputable def o326 : Obj := fld nn []
noncomputable def o327 : Obj := tup [(ss "self" 616)]
noncomputable def o328 : Obj := tup []
noncomputable def o329 : Obj := ⟨nn, none, .func (fu "go_on" "Task.go_on" A33x2 B33x2 S33x2 0 nn nn nn nn nn nn 0), #[]⟩
noncomputable def o330 : Obj := fld (ty "code") [(ss "go_on" 613), (ss "Task.go_on" 614), (ss "/claim/cut.py" 615), (ii 136 0), (ii 1 0), (ii 0 0), (ii 0 0), (ii 3 0), (rr 325), (bb true), (ii 181 0), (rr 326), nn, (rr 327), (rr 328), (rr 329), (ii 617 0), (ii 136 0), (ss "/claim/cut.py" 618)]
noncomputable def o331 : Obj := ⟨(ty "function"), none, .func (fu "go_on" "Task.go_on" A33x2 B33x2 S33x2 3 nn nn nn (ss "emacs.equality" 545) (rr 330) nn 0), #[]⟩
noncomputable def o332 : Obj := tup [(ss "deep" 620), (ss "left" 621), (ss "right" 622), (ss "slow_left" 623), (ss "slow_right" 624), (ss "turn" 625)]
noncomputable def o333 (P : Params) : Obj := dct (ty "dict") [de P "__module__" 591 (ss "emacs.equality" 545), de P "__firstlineno__" 595 (ii 123 594), de P "__init__" 605 (rr 317), de P "is_round" 612 (rr 324), de P "go_on" 619 (rr 331), de P "__static_attributes__" 626 (rr 332), de P "__dict__" 628 (rr 335), de P "__weakref__" 630 (rr 336), de P "__doc__" 631 nn] 4
noncomputable def o334 : Obj := ⟨(ty "type"), none, .cls (cl "Task" [(ty "object")] [(rr 334), (ty "object")] 333 "Task"), [none, none, (some (ss "Task" 584)), (some (ss "Task" 592)), (some (bi "object.__new__")), (some (bb true))].toArray⟩
noncomputable def o335 : Obj := fld (ty "getset_descriptor") [(ss "__dict__" 627), (rr 334), (bi "function.__dict__"), (bi "function.__dict__#set")]
noncomputable def o336 : Obj := fld (ty "getset_descriptor") [(ss "__weakref__" 629), (rr 334), (bi "ExceptionGroup.__weakref__"), nn]
noncomputable def o337 : Obj := fld (ty "super") [(rr 334), (rr 334), (rr 334)]
noncomputable def o338 : Obj := fld (ty "builtin_function_or_method") [(bi "object.__init_subclass__"), (rr 334)]
noncomputable def o339 : Obj := tup []
noncomputable def o340 : Obj := fld nn []
noncomputable def o341 : Obj := ⟨nn, none, .func (fu "equal_by" "equal_by" A34 B34 S34 0 nn nn nn nn nn nn 0), #[]⟩
noncomputable def o342 : Obj := fld (ty "code") [(ss "equal_by" 634), (ss "equal_by" 635), (ss "/claim/cut.py" 636), (ii 143 0), (ii 3 0), (ii 0 0), (ii 0 0), (ii 3 0), (rr 339), (bb true), (ii 181 0), (rr 340), nn, nn, nn, (rr 341), (ii 637 0), (ii 143 0), (ss "/claim/cut.py" 638)]
noncomputable def o343 : Obj := ⟨(ty "function"), none, .func (fu "equal_by" "equal_by" A34 B34 S34 3 nn nn nn (ss "emacs.equality" 545) (rr 342) nn 0), #[]⟩
noncomputable def o344 : Obj := tup []
noncomputable def o345 : Obj := fld nn []
noncomputable def o346 : Obj := tup [(ss "one" 643), (ss "other" 644)]
noncomputable def o347 : Obj := tup []
noncomputable def o348 : Obj := ⟨nn, none, .func (fu "are_any" "are_any" A35 B35 S35 0 nn nn nn nn nn nn 0), #[]⟩
noncomputable def o349 : Obj := fld (ty "code") [(ss "are_any" 640), (ss "are_any" 641), (ss "/claim/cut.py" 642), (ii 167 0), (ii 2 0), (ii 0 0), (ii 0 0), (ii 3 0), (rr 344), (bb true), (ii 181 0), (rr 345), nn, (rr 346), (rr 347), (rr 348), (ii 645 0), (ii 167 0), (ss "/claim/cut.py" 646)]
noncomputable def o350 : Obj := ⟨(ty "function"), none, .func (fu "are_any" "are_any" A35 B35 S35 3 nn nn nn (ss "emacs.equality" 545) (rr 349) nn 0), #[]⟩
noncomputable def o351 : Obj := tup []
noncomputable def o352 : Obj := fld nn []
noncomputable def o353 : Obj := tup [(ss "one" 651), (ss "other" 652)]
noncomputable def o354 : Obj := tup []
noncomputable def o355 : Obj := ⟨nn, none, .func (fu "equal" "equal" A36 B36 S36 0 nn nn nn nn nn nn 0), #[]⟩
noncomputable def o356 : Obj := fld (ty "code") [(ss "equal" 648), (ss "equal" 649), (ss "/claim/cut.py" 650), (ii 169 0), (ii 2 0), (ii 0 0), (ii 0 0), (ii 3 0), (rr 351), (bb true), (ii 181 0), (rr 352), nn, (rr 353), (rr 354), (rr 355), (ii 653 0), (ii 169 0), (ss "/claim/cut.py" 654)]
noncomputable def o357 : Obj := ⟨(ty "function"), none, .func (fu "equal" "equal" A36 B36 S36 3 nn nn nn (ss "emacs.equality" 545) (rr 356) nn 0), #[]⟩
noncomputable def o358 : Obj := tup []
noncomputable def o359 : Obj := fld nn []
noncomputable def o360 : Obj := tup [(ss "value" 661), (ss "slow" 662), (ss "fast" 663), (ss "ahead" 664), (ss "here" 665), (ss "many" 666)]
noncomputable def o361 : Obj := tup []
noncomputable def o362 : Obj := ⟨nn, none, .func (fu "ring_of" "ring_of" A38 B38 S38 0 nn nn nn nn nn nn 0), #[]⟩
noncomputable def o363 : Obj := fld (ty "code") [(ss "ring_of" 658), (ss "ring_of" 659), (ss "/claim/cut.py" 660), (ii 172 0), (ii 1 0), (ii 0 0), (ii 0 0), (ii 3 0), (rr 358), (bb true), (ii 181 0), (rr 359), nn, (rr 360), (rr 361), (rr 362), (ii 667 0), (ii 172 0), (ss "/claim/cut.py" 668)]
noncomputable def o364 : Obj := ⟨(ty "function"), none, .func (fu "ring_of" "ring_of" A38 B38 S38 3 nn nn nn (ss "emacs.listprims" 656) (rr 363) nn 0), #[]⟩
noncomputable def o365 : Obj := tup []
noncomputable def o366 : Obj := fld nn []
noncomputable def o367 : Obj := tup [(ss "many" 673), (ss "value" 674), (ss "ring" 675), (ss "left" 676), (ss "here" 677)]
noncomputable def o368 : Obj := tup []
noncomputable def o369 : Obj := ⟨nn, none, .func (fu "rest_at" "rest_at" A39 B39 S39 0 nn nn nn nn nn nn 0), #[]⟩
noncomputable def o370 : Obj := fld (ty "code") [(ss "rest_at" 670), (ss "rest_at" 671), (ss "/claim/cut.py" 672), (ii 185 0), (ii 2 0), (ii 0 0), (ii 0 0), (ii 3 0), (rr 365), (bb true), (ii 181 0), (rr 366), nn, (rr 367), (rr 368), (rr 369), (ii 678 0), (ii 185 0), (ss "/claim/cut.py" 679)]
noncomputable def o371 : Obj := ⟨(ty "function"), none, .func (fu "rest_at" "rest_at" A39 B39 S39 3 nn nn nn (ss "emacs.listprims" 656) (rr 370) nn 0), #[]⟩
noncomputable def o372 : Obj := tup []
noncomputable def o373 : Obj := fld nn []
noncomputable def o374 : Obj := tup [(ss "world" 684), (ss "args" 685)]
noncomputable def o375 : Obj := tup []
noncomputable def o376 : Obj := ⟨nn, none, .func (fu "lisp_nthcdr" "lisp_nthcdr" A40 B40 S40 0 nn nn nn nn nn nn 0), #[]⟩
noncomputable def o377 : Obj := fld (ty "code") [(ss "lisp_nthcdr" 681), (ss "lisp_nthcdr" 682), (ss "/claim/cut.py" 683), (ii 195 0), (ii 2 0), (ii 0 0), (ii 0 0), (ii 3 0), (rr 372), (bb true), (ii 181 0), (rr 373), nn, (rr 374), (rr 375), (rr 376), (ii 686 0), (ii 195 0), (ss "/claim/cut.py" 687)]
noncomputable def o378 : Obj := ⟨(ty "function"), none, .func (fu "lisp_nthcdr" "lisp_nthcdr" A40 B40 S40 3 nn nn nn (ss "emacs.listprims" 656) (rr 377) nn 0), #[]⟩
noncomputable def o379 : Obj := tup []
noncomputable def o380 : Obj := fld nn []
noncomputable def o381 : Obj := tup [(ss "world" 692), (ss "args" 693)]
noncomputable def o382 : Obj := tup []
noncomputable def o383 : Obj := ⟨nn, none, .func (fu "lisp_nth" "lisp_nth" A41 B41 S41 0 nn nn nn nn nn nn 0), #[]⟩
noncomputable def o384 : Obj := fld (ty "code") [(ss "lisp_nth" 689), (ss "lisp_nth" 690), (ss "/claim/cut.py" 691), (ii 197 0), (ii 2 0), (ii 0 0), (ii 0 0), (ii 3 0), (rr 379), (bb true), (ii 181 0), (rr 380), nn, (rr 381), (rr 382), (rr 383), (ii 694 0), (ii 197 0), (ss "/claim/cut.py" 695)]
noncomputable def o385 : Obj := ⟨(ty "function"), none, .func (fu "lisp_nth" "lisp_nth" A41 B41 S41 3 nn nn nn (ss "emacs.listprims" 656) (rr 384) nn 0), #[]⟩
noncomputable def o386 : Obj := tup []
noncomputable def o387 : Obj := fld nn []
noncomputable def o388 : Obj := tup [(ss "world" 700), (ss "args" 701), (ss "many" 702), (ss "found" 703), (ss "here" 704)]
noncomputable def o389 : Obj := tup []
noncomputable def o390 : Obj := ⟨nn, none, .func (fu "lisp_take" "lisp_take" A42 B42 S42 0 nn nn nn nn nn nn 0), #[]⟩
noncomputable def o391 : Obj := fld (ty "code") [(ss "lisp_take" 697), (ss "lisp_take" 698), (ss "/claim/cut.py" 699), (ii 199 0), (ii 2 0), (ii 0 0), (ii 0 0), (ii 3 0), (rr 386), (bb true), (ii 181 0), (rr 387), nn, (rr 388), (rr 389), (rr 390), (ii 705 0), (ii 199 0), (ss "/claim/cut.py" 706)]
noncomputable def o392 : Obj := ⟨(ty "function"), none, .func (fu "lisp_take" "lisp_take" A42 B42 S42 3 nn nn nn (ss "emacs.listprims" 656) (rr 391) nn 0), #[]⟩
noncomputable def o393 : Obj := tup []
noncomputable def o394 : Obj := fld nn []
noncomputable def o395 : Obj := tup [(ss "world" 711), (ss "args" 712), (ss "many" 713), (ss "things" 714), (ss "tail" 715)]
noncomputable def o396 : Obj := tup []
noncomputable def o397 : Obj := ⟨nn, none, .func (fu "lisp_last" "lisp_last" A43 B43 S43 0 nn nn nn nn nn nn 0), #[]⟩
noncomputable def o398 : Obj := fld (ty "code") [(ss "lisp_last" 708), (ss "lisp_last" 709), (ss "/claim/cut.py" 710), (ii 209 0), (ii 2 0), (ii 0 0), (ii 0 0), (ii 3 0), (rr 393), (bb true), (ii 181 0), (rr 394), nn, (rr 395), (rr 396), (rr 397), (ii 716 0), (ii 209 0), (ss "/claim/cut.py" 717)]
noncomputable def o399 : Obj := ⟨(ty "function"), none, .func (fu "lisp_last" "lisp_last" A43 B43 S43 3 nn nn nn (ss "emacs.listprims" 656) (rr 398) nn 0), #[]⟩
noncomputable def o400 : Obj := tup []
noncomputable def o401 : Obj := fld nn []
noncomputable def o402 : Obj := tup [(ss "world" 722), (ss "args" 723), (ss "many" 724), (ss "things" 725)]
noncomputable def o403 : Obj := tup []
noncomputable def o404 : Obj := ⟨nn, none, .func (fu "lisp_butlast" "lisp_butlast" A44 B44 S44 0 nn nn nn nn nn nn 0), #[]⟩
noncomputable def o405 : Obj := fld (ty "code") [(ss "lisp_butlast" 719), (ss "lisp_butlast" 720), (ss "/claim/cut.py" 721), (ii 215 0), (ii 2 0), (ii 0 0), (ii 0 0), (ii 3 0), (rr 400), (bb true), (ii 181 0), (rr 401), nn, (rr 402), (rr 403), (rr 404), (ii 726 0), (ii 215 0), (ss "/claim/cut.py" 727)]
noncomputable def o406 : Obj := ⟨(ty "function"), none, .func (fu "lisp_butlast" "lisp_butlast" A44 B44 S44 3 nn nn nn (ss "emacs.listprims" 656) (rr 405) nn 0), #[]⟩
noncomputable def o407 : Obj := tup []
noncomputable def o408 : Obj := fld nn []
noncomputable def o409 : Obj := tup [(ss "value" 732), (ss "here" 733)]
noncomputable def o410 : Obj := tup []
noncomputable def o411 : Obj := ⟨nn, none, .func (fu "last_pair" "last_pair" A45 B45 S45 0 nn nn nn nn nn nn 0), #[]⟩
noncomputable def o412 : Obj := fld (ty "code") [(ss "last_pair" 729), (ss "last_pair" 730), (ss "/claim/cut.py" 731), (ii 221 0), (ii 1 0), (ii 0 0), (ii 0 0), (ii 3 0), (rr 407), (bb true), (ii 181 0), (rr 408), nn, (rr 409), (rr 410), (rr 411), (ii 734 0), (ii 221 0), (ss "/claim/cut.py" 735)]
noncomputable def o413 : Obj := ⟨(ty "function"), none, .func (fu "last_pair" "last_pair" A45 B45 S45 3 nn nn nn (ss "emacs.listprims" 656) (rr 412) nn 0), #[]⟩
noncomputable def o414 : Obj := tup []
noncomputable def o415 : Obj := fld nn []
noncomputable def o416 : Obj := tup [(ss "world" 740), (ss "args" 741), (ss "found" 742), (ss "place" 743)]
noncomputable def o417 : Obj := tup []
noncomputable def o418 : Obj := ⟨nn, none, .func (fu "lisp_nconc" "lisp_nconc" A46 B46 S46 0 nn nn nn nn nn nn 0), #[]⟩
noncomputable def o419 : Obj := fld (ty "code") [(ss "lisp_nconc" 737), (ss "lisp_nconc" 738), (ss "/claim/cut.py" 739), (ii 228 0), (ii 2 0), (ii 0 0), (ii 0 0), (ii 3 0), (rr 414), (bb true), (ii 181 0), (rr 415), nn, (rr 416), (rr 417), (rr 418), (ii 744 0), (ii 228 0), (ss "/claim/cut.py" 745)]
noncomputable def o420 : Obj := ⟨(ty "function"), none, .func (fu "lisp_nconc" "lisp_nconc" A46 B46 S46 3 nn nn nn (ss "emacs.listprims" 656) (rr 419) nn 0), #[]⟩
noncomputable def o421 : Obj := tup []
noncomputable def o422 : Obj := fld nn []
noncomputable def o423 : Obj := tup [(ss "world" 750), (ss "args" 751)]
noncomputable def o424 : Obj := tup []
noncomputable def o425 : Obj := ⟨nn, none, .func (fu "lisp_memq" "lisp_memq" A47 B47 S47 0 nn nn nn nn nn nn 0), #[]⟩
noncomputable def o426 : Obj := fld (ty "code") [(ss "lisp_memq" 747), (ss "lisp_memq" 748), (ss "/claim/cut.py" 749), (ii 235 0), (ii 2 0), (ii 0 0), (ii 0 0), (ii 3 0), (rr 421), (bb true), (ii 181 0), (rr 422), nn, (rr 423), (rr 424), (rr 425), (ii 752 0), (ii 235 0), (ss "/claim/cut.py" 753)]
noncomputable def o427 : Obj := ⟨(ty "function"), none, .func (fu "lisp_memq" "lisp_memq" A47 B47 S47 3 nn nn nn (ss "emacs.listprims" 656) (rr 426) nn 0), #[]⟩
noncomputable def o428 : Obj := tup []
noncomputable def o429 : Obj := fld nn []
noncomputable def o430 : Obj := tup [(ss "world" 758), (ss "args" 759)]
noncomputable def o431 : Obj := tup []
noncomputable def o432 : Obj := ⟨nn, none, .func (fu "lisp_memql" "lisp_memql" A48 B48 S48 0 nn nn nn nn nn nn 0), #[]⟩
noncomputable def o433 : Obj := fld (ty "code") [(ss "lisp_memql" 755), (ss "lisp_memql" 756), (ss "/claim/cut.py" 757), (ii 237 0), (ii 2 0), (ii 0 0), (ii 0 0), (ii 3 0), (rr 428), (bb true), (ii 181 0), (rr 429), nn, (rr 430), (rr 431), (rr 432), (ii 760 0), (ii 237 0), (ss "/claim/cut.py" 761)]
noncomputable def o434 : Obj := ⟨(ty "function"), none, .func (fu "lisp_memql" "lisp_memql" A48 B48 S48 3 nn nn nn (ss "emacs.listprims" 656) (rr 433) nn 0), #[]⟩
noncomputable def o435 : Obj := tup []
noncomputable def o436 : Obj := fld nn []
noncomputable def o437 : Obj := tup [(ss "world" 766), (ss "args" 767)]
noncomputable def o438 : Obj := tup []
noncomputable def o439 : Obj := ⟨nn, none, .func (fu "lisp_member" "lisp_member" A49 B49 S49 0 nn nn nn nn nn nn 0), #[]⟩
noncomputable def o440 : Obj := fld (ty "code") [(ss "lisp_member" 763), (ss "lisp_member" 764), (ss "/claim/cut.py" 765), (ii 239 0), (ii 2 0), (ii 0 0), (ii 0 0), (ii 3 0), (rr 435), (bb true), (ii 181 0), (rr 436), nn, (rr 437), (rr 438), (rr 439), (ii 768 0), (ii 239 0), (ss "/claim/cut.py" 769)]
noncomputable def o441 : Obj := ⟨(ty "function"), none, .func (fu "lisp_member" "lisp_member" A49 B49 S49 3 nn nn nn (ss "emacs.listprims" 656) (rr 440) nn 0), #[]⟩
noncomputable def o442 : Obj := tup []
noncomputable def o443 : Obj := fld nn []
noncomputable def o444 : Obj := tup [(ss "thing" 774), (ss "value" 775), (ss "is_same" 776)]
noncomputable def o445 : Obj := tup [(ss "thing" 777), (ss "is_same" 778)]
noncomputable def o446 : Obj := ⟨nn, none, .func (fu "rest_from" "rest_from" A50 B50 S50 0 nn nn nn nn nn nn 0), #[]⟩
noncomputable def o447 : Obj := fld (ty "code") [(ss "rest_from" 771), (ss "rest_from" 772), (ss "/claim/cut.py" 773), (ii 241 0), (ii 3 0), (ii 0 0), (ii 0 0), (ii 3 0), (rr 442), (bb true), (ii 181 0), (rr 443), nn, (rr 444), (rr 445), (rr 446), (ii 779 0), (ii 241 0), (ss "/claim/cut.py" 780)]
noncomputable def o448 : Obj := ⟨(ty "function"), none, .func (fu "rest_from" "rest_from" A50 B50 S50 3 nn nn nn (ss "emacs.listprims" 656) (rr 447) nn 0), #[]⟩
noncomputable def o449 : Obj := tup []
noncomputable def o450 : Obj := fld nn []
noncomputable def o451 : Obj := tup [(ss "value" 785), (ss "is_wanted" 786), (ss "here" 787), (ss "slow" 788), (ss "turn" 789)]
noncomputable def o452 : Obj := tup []
noncomputable def o453 : Obj := ⟨nn, none, .func (fu "rest_where" "rest_where" A51 B51 S51 0 nn nn nn nn nn nn 0), #[]⟩
noncomputable def o454 : Obj := fld (ty "code") [(ss "rest_where" 782), (ss "rest_where" 783), (ss "/claim/cut.py" 784), (ii 243 0), (ii 2 0), (ii 0 0), (ii 0 0), (ii 3 0), (rr 449), (bb true), (ii 181 0), (rr 450), nn, (rr 451), (rr 452), (rr 453), (ii 790 0), (ii 243 0), (ss "/claim/cut.py" 791)]
noncomputable def o455 : Obj := ⟨(ty "function"), none, .func (fu "rest_where" "rest_where" A51 B51 S51 3 nn nn nn (ss "emacs.listprims" 656) (rr 454) nn 0), #[]⟩
noncomputable def o456 : Obj := tup []
noncomputable def o457 : Obj := fld nn []
noncomputable def o458 : Obj := tup [(ss "thing" 796), (ss "value" 797), (ss "is_same" 798), (ss "first" 799), (ss "here" 800)]
noncomputable def o459 : Obj := tup []
noncomputable def o460 : Obj := ⟨nn, none, .func (fu "left_out" "left_out" A52 B52 S52 0 nn nn nn nn nn nn 0), #[]⟩
noncomputable def o461 : Obj := fld (ty "code") [(ss "left_out" 793), (ss "left_out" 794), (ss "/claim/cut.py" 795), (ii 259 0), (ii 3 0), (ii 0 0), (ii 0 0), (ii 3 0), (rr 456), (bb true), (ii 181 0), (rr 457), nn, (rr 458), (rr 459), (rr 460), (ii 801 0), (ii 259 0), (ss "/claim/cut.py" 802)]
noncomputable def o462 : Obj := ⟨(ty "function"), none, .func (fu "left_out" "left_out" A52 B52 S52 3 nn nn nn (ss "emacs.listprims" 656) (rr 461) nn 0), #[]⟩
noncomputable def o463 : Obj := tup []
noncomputable def o464 : Obj := fld nn []
noncomputable def o465 : Obj := tup [(ss "world" 807), (ss "args" 808)]
noncomputable def o466 : Obj := tup []
noncomputable def o467 : Obj := ⟨nn, none, .func (fu "lisp_delq" "lisp_delq" A53 B53 S53 0 nn nn nn nn nn nn 0), #[]⟩
noncomputable def o468 : Obj := fld (ty "code") [(ss "lisp_delq" 804), (ss "lisp_delq" 805), (ss "/claim/cut.py" 806), (ii 271 0), (ii 2 0), (ii 0 0), (ii 0 0), (ii 3 0), (rr 463), (bb true), (ii 181 0), (rr 464), nn, (rr 465), (rr 466), (rr 467), (ii 809 0), (ii 271 0), (ss "/claim/cut.py" 810)]
noncomputable def o469 : Obj := ⟨(ty "function"), none, .func (fu "lisp_delq" "lisp_delq" A53 B53 S53 3 nn nn nn (ss "emacs.listprims" 656) (rr 468) nn 0), #[]⟩
noncomputable def o470 : Obj := tup []
noncomputable def o471 : Obj := fld nn []
noncomputable def o472 : Obj := ⟨nn, none, .func (fu "lisp_remq" "lisp_remq" A54 B54 S54 0 nn nn nn nn nn nn 0), #[]⟩
noncomputable def o473 : Obj := fld (ty "code") [(ss "lisp_remq" 812), (ss "lisp_remq" 813), (ss "/claim/cut.py" 814), (ii 273 0), (ii 2 0), (ii 0 0), (ii 0 0), (ii 3 0), (rr 470), (bb true), (ii 181 0), (rr 471), nn, nn, nn, (rr 472), (ii 815 0), (ii 273 0), (ss "/claim/cut.py" 816)]
noncomputable def o474 : Obj := ⟨(ty "function"), none, .func (fu "lisp_remq" "lisp_remq" A54 B54 S54 3 nn nn nn (ss "emacs.listprims" 656) (rr 473) nn 0), #[]⟩
noncomputable def o475 : Obj := tup []
noncomputable def o476 : Obj := fld nn []
noncomputable def o477 : Obj := tup [(ss "key" 821), (ss "value" 822), (ss "is_same" 823), (ss "is_by_cdr" 824), (ss "found" 825)]
noncomputable def o478 : Obj := tup [(ss "key" 826), (ss "is_same" 827), (ss "is_by_cdr" 828)]
noncomputable def o479 : Obj := ⟨nn, none, .func (fu "pair_with" "pair_with" A55 B55 S55 0 nn nn nn nn nn nn 0), #[]⟩
noncomputable def o480 : Obj := fld (ty "code") [(ss "pair_with" 818), (ss "pair_with" 819), (ss "/claim/cut.py" 820), (ii 275 0), (ii 4 0), (ii 0 0), (ii 0 0), (ii 3 0), (rr 475), (bb true), (ii 181 0), (rr 476), nn, (rr 477), (rr 478), (rr 479), (ii 829 0), (ii 275 0), (ss "/claim/cut.py" 830)]
noncomputable def o481 : Obj := ⟨(ty "function"), none, .func (fu "pair_with" "pair_with" A55 B55 S55 3 nn nn nn (ss "emacs.listprims" 656) (rr 480) nn 0), #[]⟩
noncomputable def o482 : Obj := tup []
noncomputable def o483 : Obj := fld nn []
noncomputable def o484 : Obj := tup [(ss "world" 835), (ss "args" 836)]
noncomputable def o485 : Obj := tup []
noncomputable def o486 : Obj := ⟨nn, none, .func (fu "lisp_assq" "lisp_assq" A56 B56 S56 0 nn nn nn nn nn nn 0), #[]⟩
noncomputable def o487 : Obj := fld (ty "code") [(ss "lisp_assq" 832), (ss "lisp_assq" 833), (ss "/claim/cut.py" 834), (ii 278 0), (ii 2 0), (ii 0 0), (ii 0 0), (ii 3 0), (rr 482), (bb true), (ii 181 0), (rr 483), nn, (rr 484), (rr 485), (rr 486), (ii 837 0), (ii 278 0), (ss "/claim/cut.py" 838)]
noncomputable def o488 : Obj := ⟨(ty "function"), none, .func (fu "lisp_assq" "lisp_assq" A56 B56 S56 3 nn nn nn (ss "emacs.listprims" 656) (rr 487) nn 0), #[]⟩
noncomputable def o489 : Obj := tup []
noncomputable def o490 : Obj := fld nn []
noncomputable def o491 : Obj := tup [(ss "world" 843), (ss "args" 844)]
noncomputable def o492 : Obj := tup []
noncomputable def o493 : Obj := ⟨nn, none, .func (fu "lisp_assoc" "lisp_assoc" A57 B57 S57 0 nn nn nn nn nn nn 0), #[]⟩
noncomputable def o494 : Obj := fld (ty "code") [(ss "lisp_assoc" 840), (ss "lisp_assoc" 841), (ss "/claim/cut.py" 842), (ii 280 0), (ii 2 0), (ii 0 0), (ii 0 0), (ii 3 0), (rr 489), (bb true), (ii 181 0), (rr 490), nn, (rr 491), (rr 492), (rr 493), (ii 845 0), (ii 280 0), (ss "/claim/cut.py" 846)]
noncomputable def o495 : Obj := ⟨(ty "function"), none, .func (fu "lisp_assoc" "lisp_assoc" A57 B57 S57 3 nn nn nn (ss "emacs.listprims" 656) (rr 494) nn 0), #[]⟩
noncomputable def o496 : Obj := tup []
noncomputable def o497 : Obj := fld nn []
noncomputable def o498 : Obj := tup [(ss "world" 851), (ss "args" 852)]
noncomputable def o499 : Obj := tup []
noncomputable def o500 : Obj := ⟨nn, none, .func (fu "lisp_rassq" "lisp_rassq" A58 B58 S58 0 nn nn nn nn nn nn 0), #[]⟩
noncomputable def o501 : Obj := fld (ty "code") [(ss "lisp_rassq" 848), (ss "lisp_rassq" 849), (ss "/claim/cut.py" 850), (ii 282 0), (ii 2 0), (ii 0 0), (ii 0 0), (ii 3 0), (rr 496), (bb true), (ii 181 0), (rr 497), nn, (rr 498), (rr 499), (rr 500), (ii 853 0), (ii 282 0), (ss "/claim/cut.py" 854)]
noncomputable def o502 : Obj := ⟨(ty "function"), none, .func (fu "lisp_rassq" "lisp_rassq" A58 B58 S58 3 nn nn nn (ss "emacs.listprims" 656) (rr 501) nn 0), #[]⟩
noncomputable def o503 : Obj := tup []
noncomputable def o504 : Obj := fld nn []
noncomputable def o505 : Obj := tup [(ss "world" 859), (ss "args" 860)]
noncomputable def o506 : Obj := tup []
noncomputable def o507 : Obj := ⟨nn, none, .func (fu "lisp_rassoc" "lisp_rassoc" A59 B59 S59 0 nn nn nn nn nn nn 0), #[]⟩
noncomputable def o508 : Obj := fld (ty "code") [(ss "lisp_rassoc" 856), (ss "lisp_rassoc" 857), (ss "/claim/cut.py" 858), (ii 284 0), (ii 2 0), (ii 0 0), (ii 0 0), (ii 3 0), (rr 503), (bb true), (ii 181 0), (rr 504), nn, (rr 505), (rr 506), (rr 507), (ii 861 0), (ii 284 0), (ss "/claim/cut.py" 862)]
noncomputable def o509 : Obj := ⟨(ty "function"), none, .func (fu "lisp_rassoc" "lisp_rassoc" A59 B59 S59 3 nn nn nn (ss "emacs.listprims" 656) (rr 508) nn 0), #[]⟩
noncomputable def o510 : Obj := tup []
noncomputable def o511 : Obj := fld nn []
noncomputable def o512 : Obj := ⟨nn, none, .func (fu "lisp_copy_alist" "lisp_copy_alist" A60 B60 S60 0 nn nn nn nn nn nn 0), #[]⟩
noncomputable def o513 : Obj := fld (ty "code") [(ss "lisp_copy_alist" 864), (ss "lisp_copy_alist" 865), (ss "/claim/cut.py" 866), (ii 286 0), (ii 2 0), (ii 0 0), (ii 0 0), (ii 3 0), (rr 510), (bb true), (ii 181 0), (rr 511), nn, nn, nn, (rr 512), (ii 867 0), (ii 286 0), (ss "/claim/cut.py" 868)]
noncomputable def o514 : Obj := ⟨(ty "function"), none, .func (fu "lisp_copy_alist" "lisp_copy_alist" A60 B60 S60 3 nn nn nn (ss "emacs.listprims" 656) (rr 513) nn 0), #[]⟩
noncomputable def o515 : Obj := tup []
noncomputable def o516 : Obj := fld nn []
noncomputable def o517 : Obj := tup [(ss "thing" 877)]
noncomputable def o518 : Obj := tup []
noncomputable def o519 : Obj := ⟨nn, none, .func (fu "is_code" "is_code" A63 B63 S63 0 nn nn nn nn nn nn 0), #[]⟩
noncomputable def o520 : Obj := fld (ty "code") [(ss "is_code" 874), (ss "is_code" 875), (ss "/claim/cut.py" 876), (ii 291 0), (ii 1 0), (ii 0 0), (ii 0 0), (ii 3 0), (rr 515), (bb true), (ii 181 0), (rr 516), nn, (rr 517), (rr 518), (rr 519), (ii 878 0), (ii 291 0), (ss "/claim/cut.py" 879)]
noncomputable def o521 : Obj := ⟨(ty "function"), none, .func (fu "is_code" "is_code" A63 B63 S63 3 nn nn nn (ss "emacs.sequences" 870) (rr 520) nn 0), #[]⟩
noncomputable def o522 : Obj := tup []
noncomputable def o523 : Obj := fld nn []
noncomputable def o524 : Obj := tup [(ss "thing" 884)]
noncomputable def o525 : Obj := tup []
noncomputable def o526 : Obj := ⟨nn, none, .func (fu "need_code" "need_code" A64 B64 S64 0 nn nn nn nn nn nn 0), #[]⟩
noncomputable def o527 : Obj := fld (ty "code") [(ss "need_code" 881), (ss "need_code" 882), (ss "/claim/cut.py" 883), (ii 293 0), (ii 1 0), (ii 0 0), (ii 0 0), (ii 3 0), (rr 522), (bb true), (ii 181 0), (rr 523), nn, (rr 524), (rr 525), (rr 526), (ii 885 0), (ii 293 0), (ss "/claim/cut.py" 886)]
noncomputable def o528 : Obj := ⟨(ty "function"), none, .func (fu "need_code" "need_code" A64 B64 S64 3 nn nn nn (ss "emacs.sequences" 870) (rr 527) nn 0), #[]⟩
noncomputable def o529 : Obj := tup []
noncomputable def o530 : Obj := fld nn []
noncomputable def o531 : Obj := tup [(ss "value" 891)]
noncomputable def o532 : Obj := tup []
noncomputable def o533 : Obj := ⟨nn, none, .func (fu "is_array" "is_array" A65 B65 S65 0 nn nn nn nn nn nn 0), #[]⟩
noncomputable def o534 : Obj := fld (ty "code") [(ss "is_array" 888), (ss "is_array" 889), (ss "/claim/cut.py" 890), (ii 297 0), (ii 1 0), (ii 0 0), (ii 0 0), (ii 3 0), (rr 529), (bb true), (ii 181 0), (rr 530), nn, (rr 531), (rr 532), (rr 533), (ii 892 0), (ii 297 0), (ss "/claim/cut.py" 893)]
noncomputable def o535 : Obj := ⟨(ty "function"), none, .func (fu "is_array" "is_array" A65 B65 S65 3 nn nn nn (ss "emacs.sequences" 870) (rr 534) nn 0), #[]⟩
noncomputable def o536 : Obj := tup []
noncomputable def o537 : Obj := fld nn []
noncomputable def o538 : Obj := tup [(ss "value" 898)]
noncomputable def o539 : Obj := tup []
noncomputable def o540 : Obj := ⟨nn, none, .func (fu "things_in" "things_in" A66 B66 S66 0 nn nn nn nn nn nn 0), #[]⟩
noncomputable def o541 : Obj := fld (ty "code") [(ss "things_in" 895), (ss "things_in" 896), (ss "/claim/cut.py" 897), (ii 299 0), (ii 1 0), (ii 0 0), (ii 0 0), (ii 3 0), (rr 536), (bb true), (ii 181 0), (rr 537), nn, (rr 538), (rr 539), (rr 540), (ii 899 0), (ii 299 0), (ss "/claim/cut.py" 900)]
noncomputable def o542 : Obj := ⟨(ty "function"), none, .func (fu "things_in" "things_in" A66 B66 S66 3 nn nn nn (ss "emacs.sequences" 870) (rr 541) nn 0), #[]⟩
noncomputable def o543 : Obj := tup []
noncomputable def o544 : Obj := fld nn []
noncomputable def o545 : Obj := ⟨nn, none, .func (fu "alike" "alike" A67 B67 S67 0 nn nn nn nn nn nn 0), #[]⟩
noncomputable def o546 : Obj := fld (ty "code") [(ss "alike" 902), (ss "alike" 903), (ss "/claim/cut.py" 904), (ii 307 0), (ii 2 0), (ii 0 0), (ii 0 0), (ii 3 0), (rr 543), (bb true), (ii 181 0), (rr 544), nn, nn, nn, (rr 545), (ii 905 0), (ii 307 0), (ss "/claim/cut.py" 906)]
noncomputable def o547 : Obj := ⟨(ty "function"), none, .func (fu "alike" "alike" A67 B67 S67 3 nn nn nn (ss "emacs.sequences" 870) (rr 546) nn 0), #[]⟩
noncomputable def o548 : Obj := tup []
noncomputable def o549 : Obj := fld nn []
noncomputable def o550 : Obj := tup [(ss "value" 911), (ss "place" 912), (ss "many" 913)]
noncomputable def o551 : Obj := tup []
noncomputable def o552 : Obj := ⟨nn, none, .func (fu "need_place" "need_place" A68 B68 S68 0 nn nn nn nn nn nn 0), #[]⟩
noncomputable def o553 : Obj := fld (ty "code") [(ss "need_place" 908), (ss "need_place" 909), (ss "/claim/cut.py" 910), (ii 311 0), (ii 3 0), (ii 0 0), (ii 0 0), (ii 3 0), (rr 548), (bb true), (ii 181 0), (rr 549), nn, (rr 550), (rr 551), (rr 552), (ii 914 0), (ii 311 0), (ss "/claim/cut.py" 915)]
noncomputable def o554 : Obj := ⟨(ty "function"), none, .func (fu "need_place" "need_place" A68 B68 S68 3 nn nn nn (ss "emacs.sequences" 870) (rr 553) nn 0), #[]⟩
noncomputable def o555 : Obj := tup []
noncomputable def o556 : Obj := fld nn []
noncomputable def o557 : Obj := tup [(ss "world" 920), (ss "args" 921)]
noncomputable def o558 : Obj := tup []
noncomputable def o559 : Obj := ⟨nn, none, .func (fu "lisp_length" "lisp_length" A69 B69 S69 0 nn nn nn nn nn nn 0), #[]⟩
noncomputable def o560 : Obj := fld (ty "code") [(ss "lisp_length" 917), (ss "lisp_length" 918), (ss "/claim/cut.py" 919), (ii 315 0), (ii 2 0), (ii 0 0), (ii 0 0), (ii 3 0), (rr 555), (bb true), (ii 181 0), (rr 556), nn, (rr 557), (rr 558), (rr 559), (ii 922 0), (ii 315 0), (ss "/claim/cut.py" 923)]
noncomputable def o561 : Obj := ⟨(ty "function"), none, .func (fu "lisp_length" "lisp_length" A69 B69 S69 3 nn nn nn (ss "emacs.sequences" 870) (rr 560) nn 0), #[]⟩
noncomputable def o562 : Obj := tup []
noncomputable def o563 : Obj := fld nn []
noncomputable def o564 : Obj := tup [(ss "world" 928), (ss "args" 929)]
noncomputable def o565 : Obj := tup []
noncomputable def o566 : Obj := ⟨nn, none, .func (fu "lisp_safe_length" "lisp_safe_length" A70 B70 S70 0 nn nn nn nn nn nn 0), #[]⟩
noncomputable def o567 : Obj := fld (ty "code") [(ss "lisp_safe_length" 925), (ss "lisp_safe_length" 926), (ss "/claim/cut.py" 927), (ii 317 0), (ii 2 0), (ii 0 0), (ii 0 0), (ii 3 0), (rr 562), (bb true), (ii 181 0), (rr 563), nn, (rr 564), (rr 565), (rr 566), (ii 930 0), (ii 317 0), (ss "/claim/cut.py" 931)]
noncomputable def o568 : Obj := ⟨(ty "function"), none, .func (fu "lisp_safe_length" "lisp_safe_length" A70 B70 S70 3 nn nn nn (ss "emacs.sequences" 870) (rr 567) nn 0), #[]⟩
noncomputable def o569 : Obj := tup []
noncomputable def o570 : Obj := fld nn []
noncomputable def o571 : Obj := tup [(ss "world" 936), (ss "args" 937), (ss "rest" 938)]
noncomputable def o572 : Obj := tup []
noncomputable def o573 : Obj := ⟨nn, none, .func (fu "lisp_elt" "lisp_elt" A71 B71 S71 0 nn nn nn nn nn nn 0), #[]⟩
noncomputable def o574 : Obj := fld (ty "code") [(ss "lisp_elt" 933), (ss "lisp_elt" 934), (ss "/claim/cut.py" 935), (ii 319 0), (ii 2 0), (ii 0 0), (ii 0 0), (ii 3 0), (rr 569), (bb true), (ii 181 0), (rr 570), nn, (rr 571), (rr 572), (rr 573), (ii 939 0), (ii 319 0), (ss "/claim/cut.py" 940)]
noncomputable def o575 : Obj := ⟨(ty "function"), none, .func (fu "lisp_elt" "lisp_elt" A71 B71 S71 3 nn nn nn (ss "emacs.sequences" 870) (rr 574) nn 0), #[]⟩
noncomputable def o576 : Obj := tup []
noncomputable def o577 : Obj := fld nn []
noncomputable def o578 : Obj := tup [(ss "world" 945), (ss "args" 946), (ss "things" 947)]
noncomputable def o579 : Obj := tup []
noncomputable def o580 : Obj := ⟨nn, none, .func (fu "lisp_aref" "lisp_aref" A72 B72 S72 0 nn nn nn nn nn nn 0), #[]⟩
noncomputable def o581 : Obj := fld (ty "code") [(ss "lisp_aref" 942), (ss "lisp_aref" 943), (ss "/claim/cut.py" 944), (ii 328 0), (ii 2 0), (ii 0 0), (ii 0 0), (ii 3 0), (rr 576), (bb true), (ii 181 0), (rr 577), nn, (rr 578), (rr 579), (rr 580), (ii 948 0), (ii 328 0), (ss "/claim/cut.py" 949)]
noncomputable def o582 : Obj := ⟨(ty "function"), none, .func (fu "lisp_aref" "lisp_aref" A72 B72 S72 3 nn nn nn (ss "emacs.sequences" 870) (rr 581) nn 0), #[]⟩
noncomputable def o583 : Obj := tup []
noncomputable def o584 : Obj := fld nn []
noncomputable def o585 : Obj := tup [(ss "world" 954), (ss "args" 955), (ss "found" 956), (ss "many" 957), (ss "place" 958), (ss "things" 959)]
noncomputable def o586 : Obj := tup []
noncomputable def o587 : Obj := ⟨nn, none, .func (fu "lisp_append" "lisp_append" A73 B73 S73 0 nn nn nn nn nn nn 0), #[]⟩
noncomputable def o588 : Obj := fld (ty "code") [(ss "lisp_append" 951), (ss "lisp_append" 952), (ss "/claim/cut.py" 953), (ii 333 0), (ii 2 0), (ii 0 0), (ii 0 0), (ii 3 0), (rr 583), (bb true), (ii 181 0), (rr 584), nn, (rr 585), (rr 586), (rr 587), (ii 960 0), (ii 333 0), (ss "/claim/cut.py" 961)]
noncomputable def o589 : Obj := ⟨(ty "function"), none, .func (fu "lisp_append" "lisp_append" A73 B73 S73 3 nn nn nn (ss "emacs.sequences" 870) (rr 588) nn 0), #[]⟩
noncomputable def o590 : Obj := tup []
noncomputable def o591 : Obj := fld nn []
noncomputable def o592 : Obj := tup [(ss "world" 966), (ss "args" 967), (ss "found" 968), (ss "value" 969)]
noncomputable def o593 : Obj := tup []
noncomputable def o594 : Obj := ⟨nn, none, .func (fu "lisp_vconcat" "lisp_vconcat" A74 B74 S74 0 nn nn nn nn nn nn 0), #[]⟩
noncomputable def o595 : Obj := fld (ty "code") [(ss "lisp_vconcat" 963), (ss "lisp_vconcat" 964), (ss "/claim/cut.py" 965), (ii 340 0), (ii 2 0), (ii 0 0), (ii 0 0), (ii 3 0), (rr 590), (bb true), (ii 181 0), (rr 591), nn, (rr 592), (rr 593), (rr 594), (ii 970 0), (ii 340 0), (ss "/claim/cut.py" 971)]
noncomputable def o596 : Obj := ⟨(ty "function"), none, .func (fu "lisp_vconcat" "lisp_vconcat" A74 B74 S74 3 nn nn nn (ss "emacs.sequences" 870) (rr 595) nn 0), #[]⟩
noncomputable def o597 : Obj := tup []
noncomputable def o598 : Obj := fld nn []
noncomputable def o599 : Obj := tup [(ss "world" 976), (ss "args" 977)]
noncomputable def o600 : Obj := tup []
noncomputable def o601 : Obj := ⟨nn, none, .func (fu "lisp_copy_sequence" "lisp_copy_sequence" A75 B75 S75 0 nn nn nn nn nn nn 0), #[]⟩
noncomputable def o602 : Obj := fld (ty "code") [(ss "lisp_copy_sequence" 973), (ss "lisp_copy_sequence" 974), (ss "/claim/cut.py" 975), (ii 346 0), (ii 2 0), (ii 0 0), (ii 0 0), (ii 3 0), (rr 597), (bb true), (ii 181 0), (rr 598), nn, (rr 599), (rr 600), (rr 601), (ii 978 0), (ii 346 0), (ss "/claim/cut.py" 979)]
noncomputable def o603 : Obj := ⟨(ty "function"), none, .func (fu "lisp_copy_sequence" "lisp_copy_sequence" A75 B75 S75 3 nn nn nn (ss "emacs.sequences" 870) (rr 602) nn 0), #[]⟩
noncomputable def o604 : Obj := tup []
noncomputable def o605 : Obj := fld nn []
noncomputable def o606 : Obj := tup [(ss "world" 984), (ss "args" 985)]
noncomputable def o607 : Obj := tup []
noncomputable def o608 : Obj := ⟨nn, none, .func (fu "lisp_reverse" "lisp_reverse" A76 B76 S76 0 nn nn nn nn nn nn 0), #[]⟩
noncomputable def o609 : Obj := fld (ty "code") [(ss "lisp_reverse" 981), (ss "lisp_reverse" 982), (ss "/claim/cut.py" 983), (ii 350 0), (ii 2 0), (ii 0 0), (ii 0 0), (ii 3 0), (rr 604), (bb true), (ii 181 0), (rr 605), nn, (rr 606), (rr 607), (rr 608), (ii 986 0), (ii 350 0), (ss "/claim/cut.py" 987)]
noncomputable def o610 : Obj := ⟨(ty "function"), none, .func (fu "lisp_reverse" "lisp_reverse" A76 B76 S76 3 nn nn nn (ss "emacs.sequences" 870) (rr 609) nn 0), #[]⟩
noncomputable def o611 : Obj := tup []
noncomputable def o612 : Obj := fld nn []
noncomputable def o613 : Obj := tup [(ss "world" 992), (ss "args" 993), (ss "found" 994), (ss "here" 995), (ss "rest" 996)]
noncomputable def o614 : Obj := tup []
noncomputable def o615 : Obj := ⟨nn, none, .func (fu "lisp_nreverse" "lisp_nreverse" A77 B77 S77 0 nn nn nn nn nn nn 0), #[]⟩
noncomputable def o616 : Obj := fld (ty "code") [(ss "lisp_nreverse" 989), (ss "lisp_nreverse" 990), (ss "/claim/cut.py" 991), (ii 352 0), (ii 2 0), (ii 0 0), (ii 0 0), (ii 3 0), (rr 611), (bb true), (ii 181 0), (rr 612), nn, (rr 613), (rr 614), (rr 615), (ii 997 0), (ii 352 0), (ss "/claim/cut.py" 998)]
noncomputable def o617 : Obj := ⟨(ty "function"), none, .func (fu "lisp_nreverse" "lisp_nreverse" A77 B77 S77 3 nn nn nn (ss "emacs.sequences" 870) (rr 616) nn 0), #[]⟩
noncomputable def o618 : Obj := tup []
noncomputable def o619 : Obj := fld nn []
noncomputable def o620 : Obj := ⟨nn, none, .func (fu "lisp_delete" "lisp_delete" A78 B78 S78 0 nn nn nn nn nn nn 0), #[]⟩
noncomputable def o621 : Obj := fld (ty "code") [(ss "lisp_delete" 1000), (ss "lisp_delete" 1001), (ss "/claim/cut.py" 1002), (ii 365 0), (ii 2 0), (ii 0 0), (ii 0 0), (ii 3 0), (rr 618), (bb true), (ii 181 0), (rr 619), nn, nn, nn, (rr 620), (ii 1003 0), (ii 365 0), (ss "/claim/cut.py" 1004)]
noncomputable def o622 : Obj := ⟨(ty "function"), none, .func (fu "lisp_delete" "lisp_delete" A78 B78 S78 3 nn nn nn (ss "emacs.sequences" 870) (rr 621) nn 0), #[]⟩
noncomputable def o623 : Obj := tup []
noncomputable def o624 : Obj := fld nn []
noncomputable def o625 : Obj := ⟨nn, none, .func (fu "lisp_remove" "lisp_remove" A79 B79 S79 0 nn nn nn nn nn nn 0), #[]⟩
noncomputable def o626 : Obj := fld (ty "code") [(ss "lisp_remove" 1006), (ss "lisp_remove" 1007), (ss "/claim/cut.py" 1008), (ii 380 0), (ii 2 0), (ii 0 0), (ii 0 0), (ii 3 0), (rr 623), (bb true), (ii 181 0), (rr 624), nn, nn, nn, (rr 625), (ii 1009 0), (ii 380 0), (ss "/claim/cut.py" 1010)]
noncomputable def o627 : Obj := ⟨(ty "function"), none, .func (fu "lisp_remove" "lisp_remove" A79 B79 S79 3 nn nn nn (ss "emacs.sequences" 870) (rr 626) nn 0), #[]⟩
noncomputable def o628 : Obj := tup []
noncomputable def o629 : Obj := fld nn []
noncomputable def o630 : Obj := tup [(ss "deck" 1017), (ss "many" 1018)]
noncomputable def o631 : Obj := tup []
noncomputable def o632 : Obj := ⟨nn, none, .func (fu "_law_draw" "_law_draw" A81 B81 S81 0 nn nn nn nn nn nn 0), #[]⟩
noncomputable def o633 : Obj := fld (ty "code") [(ss "_law_draw" 1014), (ss "_law_draw" 1015), (ss "/claim/cut.py" 1016), (ii 383 0), (ii 2 0), (ii 0 0), (ii 0 0), (ii 3 0), (rr 628), (bb true), (ii 181 0), (rr 629), nn, (rr 630), (rr 631), (rr 632), (ii 1019 0), (ii 383 0), (ss "/claim/cut.py" 1020)]
noncomputable def o634 : Obj := ⟨(ty "function"), none, .func (fu "_law_draw" "_law_draw" A81 B81 S81 3 nn nn nn (ss "law_sq0008_01" 1012) (rr 633) nn 0), #[]⟩
noncomputable def o635 : Obj := tup []
noncomputable def o636 : Obj := fld nn []
noncomputable def o637 : Obj := tup [(ss "deck" 1025), (ss "ahead" 1026), (ss "many" 1027), (ss "things" 1028), (ss "turn" 1029), (ss "number" 1030), (ss "pairs" 1031), (ss "here" 1032)]
noncomputable def o638 : Obj := tup []
noncomputable def o639 : Obj := ⟨nn, none, .func (fu "_law_ring" "_law_ring" A82 B82 S82 0 nn nn nn nn nn nn 0), #[]⟩
noncomputable def o640 : Obj := fld (ty "code") [(ss "_law_ring" 1022), (ss "_law_ring" 1023), (ss "/claim/cut.py" 1024), (ii 388 0), (ii 1 0), (ii 0 0), (ii 0 0), (ii 3 0), (rr 635), (bb true), (ii 181 0), (rr 636), nn, (rr 637), (rr 638), (rr 639), (ii 1033 0), (ii 388 0), (ss "/claim/cut.py" 1034)]
noncomputable def o641 : Obj := ⟨(ty "function"), none, .func (fu "_law_ring" "_law_ring" A82 B82 S82 3 nn nn nn (ss "law_sq0008_01" 1012) (rr 640) nn 0), #[]⟩
noncomputable def o642 : Obj := tup []
noncomputable def o643 : Obj := fld nn []
noncomputable def o644 : Obj := tup [(ss "ring" 1039), (ss "place" 1040), (ss "pairs" 1041), (ss "things" 1042), (ss "ahead" 1043)]
noncomputable def o645 : Obj := tup []
noncomputable def o646 : Obj := ⟨nn, none, .func (fu "_law_spot" "_law_spot" A83 B83 S83 0 nn nn nn nn nn nn 0), #[]⟩
noncomputable def o647 : Obj := fld (ty "code") [(ss "_law_spot" 1036), (ss "_law_spot" 1037), (ss "/claim/cut.py" 1038), (ii 400 0), (ii 2 0), (ii 0 0), (ii 0 0), (ii 3 0), (rr 642), (bb true), (ii 181 0), (rr 643), nn, (rr 644), (rr 645), (rr 646), (ii 1044 0), (ii 400 0), (ss "/claim/cut.py" 1045)]
noncomputable def o648 : Obj := ⟨(ty "function"), none, .func (fu "_law_spot" "_law_spot" A83 B83 S83 3 nn nn nn (ss "law_sq0008_01" 1012) (rr 647) nn 0), #[]⟩
noncomputable def o649 : Obj := tup []
noncomputable def o650 : Obj := fld nn []
noncomputable def o651 : Obj := tup [(ss "ring" 1050), (ss "pairs" 1051), (ss "things" 1052), (ss "ahead" 1053), (ss "behind" 1054), (ss "own" 1055), (ss "thing" 1056), (ss "rest" 1057)]
noncomputable def o652 : Obj := tup []
noncomputable def o653 : Obj := ⟨nn, none, .func (fu "_law_stays" "_law_stays" A84 B84 S84 0 nn nn nn nn nn nn 0), #[]⟩
noncomputable def o654 : Obj := fld (ty "code") [(ss "_law_stays" 1047), (ss "_law_stays" 1048), (ss "/claim/cut.py" 1049), (ii 403 0), (ii 1 0), (ii 0 0), (ii 0 0), (ii 3 0), (rr 649), (bb true), (ii 181 0), (rr 650), nn, (rr 651), (rr 652), (rr 653), (ii 1058 0), (ii 403 0), (ss "/claim/cut.py" 1059)]
noncomputable def o655 : Obj := ⟨(ty "function"), none, .func (fu "_law_stays" "_law_stays" A84 B84 S84 3 nn nn nn (ss "law_sq0008_01" 1012) (rr 654) nn 0), #[]⟩
noncomputable def o656 : Obj := tup []
noncomputable def o657 : Obj := fld nn []
noncomputable def o658 : Obj := tup [(ss "deed" 1064), (ss "args" 1065), (ss "error" 1066)]
noncomputable def o659 : Obj := tup []
noncomputable def o660 : Obj := ⟨nn, none, .func (fu "_law_told" "_law_told" A85 B85 S85 0 nn nn nn nn nn nn 0), #[]⟩
noncomputable def o661 : Obj := fld (ty "code") [(ss "_law_told" 1061), (ss "_law_told" 1062), (ss "/claim/cut.py" 1063), (ii 410 0), (ii 2 0), (ii 0 0), (ii 0 0), (ii 3 0), (rr 656), (bb true), (ii 181 0), (rr 657), nn, (rr 658), (rr 659), (rr 660), (ii 1067 0), (ii 410 0), (ss "/claim/cut.py" 1068)]
noncomputable def o662 : Obj := ⟨(ty "function"), none, .func (fu "_law_told" "_law_told" A85 B85 S85 3 nn nn nn (ss "law_sq0008_01" 1012) (rr 661) nn 0), #[]⟩
noncomputable def o663 : Obj := tup []
noncomputable def o664 : Obj := fld nn []
noncomputable def o665 : Obj := tup [(ss "found" 1073), (ss "thing" 1074)]
noncomputable def o666 : Obj := tup []
noncomputable def o667 : Obj := ⟨nn, none, .func (fu "_law_is_the" "_law_is_the" A86 B86 S86 0 nn nn nn nn nn nn 0), #[]⟩
noncomputable def o668 : Obj := fld (ty "code") [(ss "_law_is_the" 1070), (ss "_law_is_the" 1071), (ss "/claim/cut.py" 1072), (ii 415 0), (ii 2 0), (ii 0 0), (ii 0 0), (ii 3 0), (rr 663), (bb true), (ii 181 0), (rr 664), nn, (rr 665), (rr 666), (rr 667), (ii 1075 0), (ii 415 0), (ss "/claim/cut.py" 1076)]
noncomputable def o669 : Obj := ⟨(ty "function"), none, .func (fu "_law_is_the" "_law_is_the" A86 B86 S86 3 nn nn nn (ss "law_sq0008_01" 1012) (rr 668) nn 0), #[]⟩
noncomputable def o670 : Obj := tup []
noncomputable def o671 : Obj := fld nn []
noncomputable def o672 : Obj := tup [(ss "deck" 1081), (ss "ring" 1082), (ss "pairs" 1083), (ss "things" 1084), (ss "ahead" 1085), (ss "place" 1086), (ss "spot" 1087)]
noncomputable def o673 : Obj := tup []
noncomputable def o674 : Obj := ⟨nn, none, .func (fu "_law_by_place" "_law_by_place" A87 B87 S87 0 nn nn nn nn nn nn 0), #[]⟩
noncomputable def o675 : Obj := fld (ty "code") [(ss "_law_by_place" 1078), (ss "_law_by_place" 1079), (ss "/claim/cut.py" 1080), (ii 417 0), (ii 2 0), (ii 0 0), (ii 0 0), (ii 3 0), (rr 670), (bb true), (ii 181 0), (rr 671), nn, (rr 672), (rr 673), (rr 674), (ii 1088 0), (ii 417 0), (ss "/claim/cut.py" 1089)]
noncomputable def o676 : Obj := ⟨(ty "function"), none, .func (fu "_law_by_place" "_law_by_place" A87 B87 S87 3 nn nn nn (ss "law_sq0008_01" 1012) (rr 675) nn 0), #[]⟩
noncomputable def o677 : Obj := tup []
noncomputable def o678 : Obj := fld nn []
noncomputable def o679 : Obj := ⟨nn, none, .func (fu "_law_by_take" "_law_by_take" A88 B88 S88 0 nn nn nn nn nn nn 0), #[]⟩
noncomputable def o680 : Obj := fld (ty "code") [(ss "_law_by_take" 1091), (ss "_law_by_take" 1092), (ss "/claim/cut.py" 1093), (ii 424 0), (ii 2 0), (ii 0 0), (ii 0 0), (ii 3 0), (rr 677), (bb true), (ii 181 0), (rr 678), nn, nn, nn, (rr 679), (ii 1094 0), (ii 424 0), (ss "/claim/cut.py" 1095)]
noncomputable def o681 : Obj := ⟨(ty "function"), none, .func (fu "_law_by_take" "_law_by_take" A88 B88 S88 3 nn nn nn (ss "law_sq0008_01" 1012) (rr 680) nn 0), #[]⟩
noncomputable def o682 : Obj := tup []
noncomputable def o683 : Obj := fld nn []
noncomputable def o684 : Obj := ⟨nn, none, .func (fu "_law_by_look" "_law_by_look" A89 B89 S89 0 nn nn nn nn nn nn 0), #[]⟩
noncomputable def o685 : Obj := fld (ty "code") [(ss "_law_by_look" 1097), (ss "_law_by_look" 1098), (ss "/claim/cut.py" 1099), (ii 435 0), (ii 2 0), (ii 0 0), (ii 0 0), (ii 3 0), (rr 682), (bb true), (ii 181 0), (rr 683), nn, nn, nn, (rr 684), (ii 1100 0), (ii 435 0), (ss "/claim/cut.py" 1101)]
noncomputable def o686 : Obj := ⟨(ty "function"), none, .func (fu "_law_by_look" "_law_by_look" A89 B89 S89 3 nn nn nn (ss "law_sq0008_01" 1012) (rr 685) nn 0), #[]⟩
noncomputable def o687 : Obj := tup []
noncomputable def o688 : Obj := fld nn []
noncomputable def o689 : Obj := tup [(ss "deck" 1106), (ss "ring" 1107), (ss "pairs" 1108), (ss "things" 1109), (ss "ahead" 1110), (ss "own" 1111), (ss "key" 1112), (ss "menu" 1113), (ss "deed" 1114), (ss "args" 1115)]
noncomputable def o690 : Obj := tup []
noncomputable def o691 : Obj := ⟨nn, none, .func (fu "_law_by_end" "_law_by_end" A90 B90 S90 0 nn nn nn nn nn nn 0), #[]⟩
noncomputable def o692 : Obj := fld (ty "code") [(ss "_law_by_end" 1103), (ss "_law_by_end" 1104), (ss "/claim/cut.py" 1105), (ii 448 0), (ii 2 0), (ii 0 0), (ii 0 0), (ii 3 0), (rr 687), (bb true), (ii 181 0), (rr 688), nn, (rr 689), (rr 690), (rr 691), (ii 1116 0), (ii 448 0), (ss "/claim/cut.py" 1117)]
noncomputable def o693 : Obj := ⟨(ty "function"), none, .func (fu "_law_by_end" "_law_by_end" A90 B90 S90 3 nn nn nn (ss "law_sq0008_01" 1012) (rr 692) nn 0), #[]⟩
noncomputable def o694 : Obj := tup []
noncomputable def o695 : Obj := fld nn []
noncomputable def o696 : Obj := ⟨nn, none, .func (fu "_law_by_rest" "_law_by_rest" A91 B91 S91 0 nn nn nn nn nn nn 0), #[]⟩
noncomputable def o697 : Obj := fld (ty "code") [(ss "_law_by_rest" 1119), (ss "_law_by_rest" 1120), (ss "/claim/cut.py" 1121), (ii 458 0), (ii 2 0), (ii 0 0), (ii 0 0), (ii 3 0), (rr 694), (bb true), (ii 181 0), (rr 695), nn, nn, nn, (rr 696), (ii 1122 0), (ii 458 0), (ss "/claim/cut.py" 1123)]
noncomputable def o698 : Obj := ⟨(ty "function"), none, .func (fu "_law_by_rest" "_law_by_rest" A91 B91 S91 3 nn nn nn (ss "law_sq0008_01" 1012) (rr 697) nn 0), #[]⟩
noncomputable def o699 : Obj := tup []
noncomputable def o700 : Obj := fld nn []
noncomputable def o701 : Obj := ⟨nn, none, .func (fu "law" "law" A92 B92 S92 0 nn nn nn nn nn nn 0), #[]⟩
noncomputable def o702 : Obj := fld (ty "code") [(ss "law" 1125), (ss "law" 1126), (ss "/claim/cut.py" 1127), (ii 473 0), (ii 1 0), (ii 0 0), (ii 0 0), (ii 3 0), (rr 699), (bb true), (ii 181 0), (rr 700), nn, nn, nn, (rr 701), (ii 1128 0), (ii 473 0), (ss "/claim/cut.py" 1129)]
noncomputable def o703 : Obj := ⟨(ty "function"), none, .func (fu "law" "law" A92 B92 S92 3 nn nn nn (ss "law_sq0008_01" 1012) (rr 702) nn 0), #[]⟩
noncomputable def o3v61 (P : Params) : Obj := dct (ty "dict") (de P "__name__" 165 (ss "emacs.objects" 227) :: (e3 P).take 12) 13
noncomputable def o3v112 (P : Params) : Obj := dct (ty "dict") (de P "__name__" 165 (ss "emacs.objects" 227) :: (e3 P).take 15) 16
noncomputable def o3v242 (P : Params) : Obj := dct (ty "dict") (de P "__name__" 165 (ss "emacs.dataprims" 478) :: (e3 P).take 23) 24
noncomputable def o3v352 (P : Params) : Obj := dct (ty "dict") (de P "__name__" 165 (ss "emacs.equality" 545) :: (e3 P).take 38) 39
noncomputable def o3v575 (P : Params) : Obj := dct (ty "dict") (de P "__name__" 165 (ss "emacs.listprims" 656) :: (e3 P).take 60) 61
noncomputable def o3v768 (P : Params) : Obj := dct (ty "dict") (de P "__name__" 165 (ss "law_sq0008_01" 1012) :: (e3 P).take 83) 84
noncomputable def o12v1 : Obj := fld nn (e12.take 0)
noncomputable def o12v39 : Obj := fld nn (e12.take 9)
noncomputable def o12v113 : Obj := fld nn (e12.take 18)
noncomputable def o12v233 : Obj := fld nn (e12.take 39)
noncomputable def o12v353 : Obj := fld nn (e12.take 78)
noncomputable def o12v576 : Obj := fld nn (e12.take 144)
noncomputable def o12v769 : Obj := fld nn (e12.take 210)
noncomputable def tree1 (P : Params) : BT := .node (boot_o_0 P) (.node (boot_o_1 P) (.node (boot_o_3 P) (.node (boot_o_7 P) .nil .nil) (.node o11 .nil .nil)) (.node (boot_o_5 P) (.node (boot_o_9 P) .nil .nil) (.node o13 .nil .nil))) (.node (boot_o_2 P) (.node (boot_o_4 P) (.node (boot_o_8 P) .nil .nil) (.node o12v1 .nil .nil)) (.node (boot_o_6 P) (.node (boot_o_10 P) .nil .nil) (.node o14 .nil .nil)))
noncomputable def tree7 (P : Params) : BT := .node (boot_o_0 P) (.node (boot_o_1 P) (.node (o3v61 P) (.node (boot_o_7 P) (.node o15 (.node o31 (.node (o63 P) .nil .nil) .nil) (.node o47 .nil .nil)) (.node o23 (.node o39 .nil .nil) (.node o55 .nil .nil))) (.node o11 (.node o19 (.node o35 .nil .nil) (.node o51 .nil .nil)) (.node o27 (.node o43 .nil .nil) (.node o59 .nil .nil)))) (.node (boot_o_5 P) (.node (boot_o_9 P) (.node o17 (.node o33 (.node (o65 P) .nil .nil) .nil) (.node o49 .nil .nil)) (.node o25 (.node o41 .nil .nil) (.node (o57 P) .nil .nil))) (.node o13 (.node o21 (.node (o37 P) .nil .nil) (.node o53 .nil .nil)) (.node o29 (.node o45 .nil .nil) (.node o61 .nil .nil))))) (.node (o2 P) (.node (boot_o_4 P) (.node (boot_o_8 P) (.node o16 (.node o32 (.node o64 .nil .nil) .nil) (.node o48 .nil .nil)) (.node (o24 P) (.node o40 .nil .nil) (.node o56 .nil .nil))) (.node o12v39 (.node o20 (.node o36 .nil .nil) (.node o52 .nil .nil)) (.node o28 (.node (o44 P) .nil .nil) (.node o60 .nil .nil)))) (.node (boot_o_6 P) (.node (boot_o_10 P) (.node o18 (.node o34 .nil .nil) (.node o50 .nil .nil)) (.node o26 (.node o42 .nil .nil) (.node o58 .nil .nil))) (.node o14 (.node o22 (.node o38 .nil .nil) (.node o54 .nil .nil)) (.node o30 (.node o46 .nil .nil) (.node o62 .nil .nil)))))
noncomputable def tree10 (P : Params) : BT := .node (boot_o_0 P) (.node (boot_o_1 P) (.node (o3v112 P) (.node (boot_o_7 P) (.node o15 (.node o31 (.node (o63 P) (.node o127 .nil .nil) .nil) (.node o95 .nil .nil)) (.node o47 (.node o79 .nil .nil) (.node (o111 P) .nil .nil))) (.node o23 (.node o39 (.node o71 .nil .nil) (.node (o103 P) .nil .nil)) (.node o55 (.node o87 .nil .nil) (.node o119 .nil .nil)))) (.node o11 (.node o19 (.node o35 (.node o67 .nil .nil) (.node o99 .nil .nil)) (.node o51 (.node o83 .nil .nil) (.node o115 .nil .nil))) (.node o27 (.node o43 (.node o75 .nil .nil) (.node o107 .nil .nil)) (.node o59 (.node o91 .nil .nil) (.node o123 .nil .nil))))) (.node (boot_o_5 P) (.node (boot_o_9 P) (.node o17 (.node o33 (.node (o65 P) (.node o129 .nil .nil) .nil) (.node o97 .nil .nil)) (.node o49 (.node (o81 P) .nil .nil) (.node o113 .nil .nil))) (.node o25 (.node o41 (.node o73 .nil .nil) (.node o105 .nil .nil)) (.node (o57 P) (.node (o89 P) .nil .nil) (.node o121 .nil .nil)))) (.node o13 (.node o21 (.node (o37 P) (.node o69 .nil .nil) (.node o101 .nil .nil)) (.node o53 (.node o85 .nil .nil) (.node o117 .nil .nil))) (.node o29 (.node o45 (.node o77 .nil .nil) (.node o109 .nil .nil)) (.node o61 (.node o93 .nil .nil) (.node o125 .nil .nil)))))) (.node (o2 P) (.node (boot_o_4 P) (.node (boot_o_8 P) (.node o16 (.node o32 (.node o64 (.node o128 .nil .nil) .nil) (.node o96 .nil .nil)) (.node o48 (.node o80 .nil .nil) (.node o112 .nil .nil))) (.node (o24 P) (.node o40 (.node o72 .nil .nil) (.node o104 .nil .nil)) (.node o56 (.node o88 .nil .nil) (.node o120 .nil .nil)))) (.node o12v113 (.node o20 (.node o36 (.node (o68 P) .nil .nil) (.node o100 .nil .nil)) (.node o52 (.node o84 .nil .nil) (.node o116 .nil .nil))) (.node o28 (.node (o44 P) (.node o76 .nil .nil) (.node o108 .nil .nil)) (.node o60 (.node o92 .nil .nil) (.node (o124 P) .nil .nil))))) (.node (boot_o_6 P) (.node (boot_o_10 P) (.node o18 (.node o34 (.node o66 .nil .nil) (.node o98 .nil .nil)) (.node o50 (.node o82 .nil .nil) (.node o114 .nil .nil))) (.node o26 (.node o42 (.node o74 .nil .nil) (.node o106 .nil .nil)) (.node o58 (.node o90 .nil .nil) (.node o122 .nil .nil)))) (.node o14 (.node o22 (.node o38 (.node o70 .nil .nil) (.node o102 .nil .nil)) (.node o54 (.node o86 .nil .nil) (.node o118 .nil .nil))) (.node o30 (.node o46 (.node o78 .nil .nil) (.node o110 .nil .nil)) (.node o62 (.node o94 .nil .nil) (.node o126 .nil .nil))))))
noncomputable def tree19 (P : Params) : BT := .node (boot_o_0 P) (.node (boot_o_1 P) (.node (o3v242 P) (.node (boot_o_7 P) (.node o15 (.node o31 (.node (o63 P) (.node o127 .nil .nil) (.node o191 .nil .nil)) (.node o95 (.node o159 .nil .nil) .nil)) (.node o47 (.node o79 (.node o143 .nil .nil) (.node o207 .nil .nil)) (.node (o111 P) (.node o175 .nil .nil) .nil))) (.node o23 (.node o39 (.node o71 (.node o135 .nil .nil) (.node o199 .nil .nil)) (.node (o103 P) (.node o167 .nil .nil) .nil)) (.node o55 (.node o87 (.node o151 .nil .nil) (.node o215 .nil .nil)) (.node o119 (.node o183 .nil .nil) .nil)))) (.node o11 (.node o19 (.node o35 (.node o67 (.node o131 .nil .nil) (.node o195 .nil .nil)) (.node o99 (.node o163 .nil .nil) .nil)) (.node o51 (.node o83 (.node o147 .nil .nil) (.node o211 .nil .nil)) (.node o115 (.node o179 .nil .nil) .nil))) (.node o27 (.node o43 (.node o75 (.node o139 .nil .nil) (.node o203 .nil .nil)) (.node o107 (.node o171 .nil .nil) .nil)) (.node o59 (.node o91 (.node o155 .nil .nil) (.node o219 .nil .nil)) (.node o123 (.node o187 .nil .nil) .nil))))) (.node (boot_o_5 P) (.node (boot_o_9 P) (.node o17 (.node o33 (.node (o65 P) (.node o129 .nil .nil) (.node o193 .nil .nil)) (.node o97 (.node o161 .nil .nil) .nil)) (.node o49 (.node (o81 P) (.node (o145 P) .nil .nil) (.node o209 .nil .nil)) (.node o113 (.node o177 .nil .nil) .nil))) (.node o25 (.node o41 (.node o73 (.node o137 .nil .nil) (.node o201 .nil .nil)) (.node o105 (.node o169 .nil .nil) .nil)) (.node (o57 P) (.node (o89 P) (.node (o153 P) .nil .nil) (.node o217 .nil .nil)) (.node o121 (.node o185 .nil .nil) .nil)))) (.node o13 (.node o21 (.node (o37 P) (.node o69 (.node o133 .nil .nil) (.node o197 .nil .nil)) (.node o101 (.node o165 .nil .nil) .nil)) (.node o53 (.node o85 (.node o149 .nil .nil) (.node o213 .nil .nil)) (.node o117 (.node o181 .nil .nil) .nil))) (.node o29 (.node o45 (.node o77 (.node o141 .nil .nil) (.node o205 .nil .nil)) (.node o109 (.node o173 .nil .nil) .nil)) (.node o61 (.node o93 (.node o157 .nil .nil) (.node o221 .nil .nil)) (.node o125 (.node o189 .nil .nil) .nil)))))) (.node (o2 P) (.node (boot_o_4 P) (.node (boot_o_8 P) (.node o16 (.node o32 (.node o64 (.node o128 .nil .nil) (.node o192 .nil .nil)) (.node o96 (.node o160 .nil .nil) .nil)) (.node o48 (.node o80 (.node o144 .nil .nil) (.node o208 .nil .nil)) (.node o112 (.node o176 .nil .nil) .nil))) (.node (o24 P) (.node o40 (.node o72 (.node o136 .nil .nil) (.node o200 .nil .nil)) (.node o104 (.node o168 .nil .nil) .nil)) (.node o56 (.node o88 (.node o152 .nil .nil) (.node o216 .nil .nil)) (.node o120 (.node o184 .nil .nil) .nil)))) (.node o12v233 (.node o20 (.node o36 (.node (o68 P) (.node (o132 P) .nil .nil) (.node o196 .nil .nil)) (.node o100 (.node o164 .nil .nil) .nil)) (.node o52 (.node o84 (.node o148 .nil .nil) (.node o212 .nil .nil)) (.node o116 (.node (o180 P) .nil .nil) .nil))) (.node o28 (.node (o44 P) (.node o76 (.node o140 .nil .nil) (.node o204 .nil .nil)) (.node o108 (.node o172 .nil .nil) .nil)) (.node o60 (.node o92 (.node o156 .nil .nil) (.node o220 .nil .nil)) (.node (o124 P) (.node o188 .nil .nil) .nil))))) (.node (boot_o_6 P) (.node (boot_o_10 P) (.node o18 (.node o34 (.node o66 (.node o130 .nil .nil) (.node o194 .nil .nil)) (.node o98 (.node o162 .nil .nil) .nil)) (.node o50 (.node o82 (.node o146 .nil .nil) (.node o210 .nil .nil)) (.node o114 (.node o178 .nil .nil) .nil))) (.node o26 (.node o42 (.node o74 (.node o138 .nil .nil) (.node o202 .nil .nil)) (.node o106 (.node o170 .nil .nil) .nil)) (.node o58 (.node o90 (.node o154 .nil .nil) (.node o218 .nil .nil)) (.node o122 (.node o186 .nil .nil) .nil)))) (.node o14 (.node o22 (.node o38 (.node o70 (.node o134 .nil .nil) (.node o198 .nil .nil)) (.node o102 (.node o166 .nil .nil) .nil)) (.node o54 (.node o86 (.node o150 .nil .nil) (.node o214 .nil .nil)) (.node o118 (.node o182 .nil .nil) .nil))) (.node o30 (.node o46 (.node o78 (.node o142 .nil .nil) (.node o206 .nil .nil)) (.node o110 (.node o174 .nil .nil) .nil)) (.node o62 (.node o94 (.node o158 .nil .nil) .nil) (.node o126 (.node o190 .nil .nil) .nil))))))
noncomputable def tree35 (P : Params) : BT := .node (boot_o_0 P) (.node (boot_o_1 P) (.node (o3v352 P) (.node (boot_o_7 P) (.node o15 (.node o31 (.node (o63 P) (.node o127 (.node o255 .nil .nil) .nil) (.node o191 (.node o319 .nil .nil) .nil)) (.node o95 (.node o159 (.node o287 .nil .nil) .nil) (.node o223 .nil .nil))) (.node o47 (.node o79 (.node o143 (.node o271 .nil .nil) .nil) (.node o207 (.node o335 .nil .nil) .nil)) (.node (o111 P) (.node o175 (.node o303 .nil .nil) .nil) (.node o239 .nil .nil)))) (.node o23 (.node o39 (.node o71 (.node o135 (.node o263 .nil .nil) .nil) (.node o199 (.node o327 .nil .nil) .nil)) (.node (o103 P) (.node o167 (.node o295 .nil .nil) .nil) (.node o231 .nil .nil))) (.node o55 (.node o87 (.node o151 (.node o279 .nil .nil) .nil) (.node o215 .nil .nil)) (.node o119 (.node o183 (.node o311 .nil .nil) .nil) (.node o247 .nil .nil))))) (.node o11 (.node o19 (.node o35 (.node o67 (.node o131 (.node o259 .nil .nil) .nil) (.node o195 (.node o323 .nil .nil) .nil)) (.node o99 (.node o163 (.node o291 .nil .nil) .nil) (.node o227 .nil .nil))) (.node o51 (.node o83 (.node o147 (.node o275 .nil .nil) .nil) (.node o211 .nil .nil)) (.node o115 (.node o179 (.node o307 .nil .nil) .nil) (.node o243 .nil .nil)))) (.node o27 (.node o43 (.node o75 (.node o139 (.node o267 .nil .nil) .nil) (.node o203 (.node o331 .nil .nil) .nil)) (.node o107 (.node o171 (.node o299 .nil .nil) .nil) (.node o235 .nil .nil))) (.node o59 (.node o91 (.node o155 (.node o283 .nil .nil) .nil) (.node o219 .nil .nil)) (.node o123 (.node o187 (.node o315 .nil .nil) .nil) (.node o251 .nil .nil)))))) (.node (boot_o_5 P) (.node (boot_o_9 P) (.node o17 (.node o33 (.node (o65 P) (.node o129 (.node o257 .nil .nil) .nil) (.node o193 (.node o321 .nil .nil) .nil)) (.node o97 (.node o161 (.node o289 .nil .nil) .nil) (.node o225 .nil .nil))) (.node o49 (.node (o81 P) (.node (o145 P) (.node o273 .nil .nil) .nil) (.node o209 (.node o337 .nil .nil) .nil)) (.node o113 (.node o177 (.node o305 .nil .nil) .nil) (.node o241 .nil .nil)))) (.node o25 (.node o41 (.node o73 (.node o137 (.node o265 .nil .nil) .nil) (.node o201 (.node o329 .nil .nil) .nil)) (.node o105 (.node o169 (.node o297 .nil .nil) .nil) (.node o233 .nil .nil))) (.node (o57 P) (.node (o89 P) (.node (o153 P) (.node o281 .nil .nil) .nil) (.node o217 .nil .nil)) (.node o121 (.node o185 (.node o313 .nil .nil) .nil) (.node o249 .nil .nil))))) (.node o13 (.node o21 (.node (o37 P) (.node o69 (.node o133 (.node o261 .nil .nil) .nil) (.node o197 (.node o325 .nil .nil) .nil)) (.node o101 (.node o165 (.node o293 .nil .nil) .nil) (.node o229 .nil .nil))) (.node o53 (.node o85 (.node o149 (.node o277 .nil .nil) .nil) (.node o213 .nil .nil)) (.node o117 (.node o181 (.node o309 .nil .nil) .nil) (.node o245 .nil .nil)))) (.node o29 (.node o45 (.node o77 (.node o141 (.node o269 .nil .nil) .nil) (.node o205 (.node (o333 P) .nil .nil) .nil)) (.node o109 (.node o173 (.node o301 .nil .nil) .nil) (.node o237 .nil .nil))) (.node o61 (.node o93 (.node o157 (.node o285 .nil .nil) .nil) (.node o221 .nil .nil)) (.node o125 (.node o189 (.node o317 .nil .nil) .nil) (.node o253 .nil .nil))))))) (.node (o2 P) (.node (boot_o_4 P) (.node (boot_o_8 P) (.node o16 (.node o32 (.node o64 (.node o128 (.node o256 .nil .nil) .nil) (.node o192 (.node o320 .nil .nil) .nil)) (.node o96 (.node o160 (.node o288 .nil .nil) .nil) (.node o224 .nil .nil))) (.node o48 (.node o80 (.node o144 (.node o272 .nil .nil) .nil) (.node o208 (.node o336 .nil .nil) .nil)) (.node o112 (.node o176 (.node o304 .nil .nil) .nil) (.node o240 .nil .nil)))) (.node (o24 P) (.node o40 (.node o72 (.node o136 (.node o264 .nil .nil) .nil) (.node o200 (.node o328 .nil .nil) .nil)) (.node o104 (.node o168 (.node o296 .nil .nil) .nil) (.node o232 .nil .nil))) (.node o56 (.node o88 (.node o152 (.node o280 .nil .nil) .nil) (.node o216 .nil .nil)) (.node o120 (.node o184 (.node o312 .nil .nil) .nil) (.node o248 .nil .nil))))) (.node o12v353 (.node o20 (.node o36 (.node (o68 P) (.node (o132 P) (.node o260 .nil .nil) .nil) (.node o196 (.node o324 .nil .nil) .nil)) (.node o100 (.node o164 (.node o292 .nil .nil) .nil) (.node o228 .nil .nil))) (.node o52 (.node o84 (.node o148 (.node o276 .nil .nil) .nil) (.node o212 .nil .nil)) (.node o116 (.node (o180 P) (.node o308 .nil .nil) .nil) (.node o244 .nil .nil)))) (.node o28 (.node (o44 P) (.node o76 (.node o140 (.node o268 .nil .nil) .nil) (.node o204 (.node o332 .nil .nil) .nil)) (.node o108 (.node o172 (.node o300 .nil .nil) .nil) (.node o236 .nil .nil))) (.node o60 (.node o92 (.node o156 (.node o284 .nil .nil) .nil) (.node o220 .nil .nil)) (.node (o124 P) (.node o188 (.node o316 .nil .nil) .nil) (.node o252 .nil .nil)))))) (.node (boot_o_6 P) (.node (boot_o_10 P) (.node o18 (.node o34 (.node o66 (.node o130 (.node o258 .nil .nil) .nil) (.node o194 (.node o322 .nil .nil) .nil)) (.node o98 (.node o162 (.node o290 .nil .nil) .nil) (.node o226 .nil .nil))) (.node o50 (.node o82 (.node o146 (.node o274 .nil .nil) .nil) (.node o210 (.node o338 .nil .nil) .nil)) (.node o114 (.node o178 (.node (o306 P) .nil .nil) .nil) (.node o242 .nil .nil)))) (.node o26 (.node o42 (.node o74 (.node o138 (.node o266 .nil .nil) .nil) (.node o202 (.node o330 .nil .nil) .nil)) (.node o106 (.node o170 (.node o298 .nil .nil) .nil) (.node o234 .nil .nil))) (.node o58 (.node o90 (.node o154 (.node o282 .nil .nil) .nil) (.node o218 .nil .nil)) (.node o122 (.node o186 (.node o314 .nil .nil) .nil) (.node o250 .nil .nil))))) (.node o14 (.node o22 (.node o38 (.node o70 (.node o134 (.node o262 .nil .nil) .nil) (.node o198 (.node o326 .nil .nil) .nil)) (.node o102 (.node o166 (.node o294 .nil .nil) .nil) (.node o230 .nil .nil))) (.node o54 (.node o86 (.node o150 (.node o278 .nil .nil) .nil) (.node o214 .nil .nil)) (.node o118 (.node o182 (.node o310 .nil .nil) .nil) (.node o246 .nil .nil)))) (.node o30 (.node o46 (.node o78 (.node o142 (.node o270 .nil .nil) .nil) (.node o206 (.node o334 .nil .nil) .nil)) (.node o110 (.node o174 (.node o302 .nil .nil) .nil) (.node o238 .nil .nil))) (.node o62 (.node o94 (.node o158 (.node o286 .nil .nil) .nil) (.node o222 .nil .nil)) (.node o126 (.node o190 (.node o318 .nil .nil) .nil) (.node o254 .nil .nil)))))))
noncomputable def tree58 (P : Params) : BT := .node (boot_o_0 P) (.node (boot_o_1 P) (.node (o3v575 P) (.node (boot_o_7 P) (.node o15 (.node o31 (.node (o63 P) (.node o127 (.node o255 .nil .nil) (.node o383 .nil .nil)) (.node o191 (.node o319 .nil .nil) (.node o447 .nil .nil))) (.node o95 (.node o159 (.node o287 .nil .nil) (.node o415 .nil .nil)) (.node o223 (.node o351 .nil .nil) (.node o479 .nil .nil)))) (.node o47 (.node o79 (.node o143 (.node o271 .nil .nil) (.node o399 .nil .nil)) (.node o207 (.node o335 .nil .nil) (.node o463 .nil .nil))) (.node (o111 P) (.node o175 (.node o303 .nil .nil) (.node o431 .nil .nil)) (.node o239 (.node o367 .nil .nil) .nil)))) (.node o23 (.node o39 (.node o71 (.node o135 (.node o263 .nil .nil) (.node o391 .nil .nil)) (.node o199 (.node o327 .nil .nil) (.node o455 .nil .nil))) (.node (o103 P) (.node o167 (.node o295 .nil .nil) (.node o423 .nil .nil)) (.node o231 (.node o359 .nil .nil) (.node o487 .nil .nil)))) (.node o55 (.node o87 (.node o151 (.node o279 .nil .nil) (.node o407 .nil .nil)) (.node o215 (.node o343 .nil .nil) (.node o471 .nil .nil))) (.node o119 (.node o183 (.node o311 .nil .nil) (.node o439 .nil .nil)) (.node o247 (.node o375 .nil .nil) .nil))))) (.node o11 (.node o19 (.node o35 (.node o67 (.node o131 (.node o259 .nil .nil) (.node o387 .nil .nil)) (.node o195 (.node o323 .nil .nil) (.node o451 .nil .nil))) (.node o99 (.node o163 (.node o291 .nil .nil) (.node o419 .nil .nil)) (.node o227 (.node o355 .nil .nil) (.node o483 .nil .nil)))) (.node o51 (.node o83 (.node o147 (.node o275 .nil .nil) (.node o403 .nil .nil)) (.node o211 (.node o339 .nil .nil) (.node o467 .nil .nil))) (.node o115 (.node o179 (.node o307 .nil .nil) (.node o435 .nil .nil)) (.node o243 (.node o371 .nil .nil) .nil)))) (.node o27 (.node o43 (.node o75 (.node o139 (.node o267 .nil .nil) (.node o395 .nil .nil)) (.node o203 (.node o331 .nil .nil) (.node o459 .nil .nil))) (.node o107 (.node o171 (.node o299 .nil .nil) (.node o427 .nil .nil)) (.node o235 (.node o363 .nil .nil) .nil))) (.node o59 (.node o91 (.node o155 (.node o283 .nil .nil) (.node o411 .nil .nil)) (.node o219 (.node o347 .nil .nil) (.node o475 .nil .nil))) (.node o123 (.node o187 (.node o315 .nil .nil) (.node o443 .nil .nil)) (.node o251 (.node o379 .nil .nil) .nil)))))) (.node (boot_o_5 P) (.node (boot_o_9 P) (.node o17 (.node o33 (.node (o65 P) (.node o129 (.node o257 .nil .nil) (.node o385 .nil .nil)) (.node o193 (.node o321 .nil .nil) (.node o449 .nil .nil))) (.node o97 (.node o161 (.node o289 .nil .nil) (.node o417 .nil .nil)) (.node o225 (.node o353 .nil .nil) (.node o481 .nil .nil)))) (.node o49 (.node (o81 P) (.node (o145 P) (.node o273 .nil .nil) (.node o401 .nil .nil)) (.node o209 (.node o337 .nil .nil) (.node o465 .nil .nil))) (.node o113 (.node o177 (.node o305 .nil .nil) (.node o433 .nil .nil)) (.node o241 (.node o369 .nil .nil) .nil)))) (.node o25 (.node o41 (.node o73 (.node o137 (.node o265 .nil .nil) (.node o393 .nil .nil)) (.node o201 (.node o329 .nil .nil) (.node o457 .nil .nil))) (.node o105 (.node o169 (.node o297 .nil .nil) (.node o425 .nil .nil)) (.node o233 (.node o361 .nil .nil) .nil))) (.node (o57 P) (.node (o89 P) (.node (o153 P) (.node o281 .nil .nil) (.node o409 .nil .nil)) (.node o217 (.node o345 .nil .nil) (.node o473 .nil .nil))) (.node o121 (.node o185 (.node o313 .nil .nil) (.node o441 .nil .nil)) (.node o249 (.node o377 .nil .nil) .nil))))) (.node o13 (.node o21 (.node (o37 P) (.node o69 (.node o133 (.node o261 .nil .nil) (.node o389 .nil .nil)) (.node o197 (.node o325 .nil .nil) (.node o453 .nil .nil))) (.node o101 (.node o165 (.node o293 .nil .nil) (.node o421 .nil .nil)) (.node o229 (.node o357 .nil .nil) (.node o485 .nil .nil)))) (.node o53 (.node o85 (.node o149 (.node o277 .nil .nil) (.node o405 .nil .nil)) (.node o213 (.node o341 .nil .nil) (.node o469 .nil .nil))) (.node o117 (.node o181 (.node o309 .nil .nil) (.node o437 .nil .nil)) (.node o245 (.node o373 .nil .nil) .nil)))) (.node o29 (.node o45 (.node o77 (.node o141 (.node o269 .nil .nil) (.node o397 .nil .nil)) (.node o205 (.node (o333 P) .nil .nil) (.node o461 .nil .nil))) (.node o109 (.node o173 (.node o301 .nil .nil) (.node o429 .nil .nil)) (.node o237 (.node o365 .nil .nil) .nil))) (.node o61 (.node o93 (.node o157 (.node o285 .nil .nil) (.node o413 .nil .nil)) (.node o221 (.node o349 .nil .nil) (.node o477 .nil .nil))) (.node o125 (.node o189 (.node o317 .nil .nil) (.node o445 .nil .nil)) (.node o253 (.node o381 .nil .nil) .nil))))))) (.node (o2 P) (.node (boot_o_4 P) (.node (boot_o_8 P) (.node o16 (.node o32 (.node o64 (.node o128 (.node o256 .nil .nil) (.node o384 .nil .nil)) (.node o192 (.node o320 .nil .nil) (.node o448 .nil .nil))) (.node o96 (.node o160 (.node o288 .nil .nil) (.node o416 .nil .nil)) (.node o224 (.node o352 .nil .nil) (.node o480 .nil .nil)))) (.node o48 (.node o80 (.node o144 (.node o272 .nil .nil) (.node o400 .nil .nil)) (.node o208 (.node o336 .nil .nil) (.node o464 .nil .nil))) (.node o112 (.node o176 (.node o304 .nil .nil) (.node o432 .nil .nil)) (.node o240 (.node o368 .nil .nil) .nil)))) (.node (o24 P) (.node o40 (.node o72 (.node o136 (.node o264 .nil .nil) (.node o392 .nil .nil)) (.node o200 (.node o328 .nil .nil) (.node o456 .nil .nil))) (.node o104 (.node o168 (.node o296 .nil .nil) (.node o424 .nil .nil)) (.node o232 (.node o360 .nil .nil) (.node o488 .nil .nil)))) (.node o56 (.node o88 (.node o152 (.node o280 .nil .nil) (.node o408 .nil .nil)) (.node o216 (.node o344 .nil .nil) (.node o472 .nil .nil))) (.node o120 (.node o184 (.node o312 .nil .nil) (.node o440 .nil .nil)) (.node o248 (.node o376 .nil .nil) .nil))))) (.node o12v576 (.node o20 (.node o36 (.node (o68 P) (.node (o132 P) (.node o260 .nil .nil) (.node o388 .nil .nil)) (.node o196 (.node o324 .nil .nil) (.node o452 .nil .nil))) (.node o100 (.node o164 (.node o292 .nil .nil) (.node o420 .nil .nil)) (.node o228 (.node o356 .nil .nil) (.node o484 .nil .nil)))) (.node o52 (.node o84 (.node o148 (.node o276 .nil .nil) (.node o404 .nil .nil)) (.node o212 (.node o340 .nil .nil) (.node o468 .nil .nil))) (.node o116 (.node (o180 P) (.node o308 .nil .nil) (.node o436 .nil .nil)) (.node o244 (.node o372 .nil .nil) .nil)))) (.node o28 (.node (o44 P) (.node o76 (.node o140 (.node o268 .nil .nil) (.node o396 .nil .nil)) (.node o204 (.node o332 .nil .nil) (.node o460 .nil .nil))) (.node o108 (.node o172 (.node o300 .nil .nil) (.node o428 .nil .nil)) (.node o236 (.node o364 .nil .nil) .nil))) (.node o60 (.node o92 (.node o156 (.node o284 .nil .nil) (.node o412 .nil .nil)) (.node o220 (.node o348 .nil .nil) (.node o476 .nil .nil))) (.node (o124 P) (.node o188 (.node o316 .nil .nil) (.node o444 .nil .nil)) (.node o252 (.node o380 .nil .nil) .nil)))))) (.node (boot_o_6 P) (.node (boot_o_10 P) (.node o18 (.node o34 (.node o66 (.node o130 (.node o258 .nil .nil) (.node o386 .nil .nil)) (.node o194 (.node o322 .nil .nil) (.node o450 .nil .nil))) (.node o98 (.node o162 (.node o290 .nil .nil) (.node o418 .nil .nil)) (.node o226 (.node o354 .nil .nil) (.node o482 .nil .nil)))) (.node o50 (.node o82 (.node o146 (.node o274 .nil .nil) (.node o402 .nil .nil)) (.node o210 (.node o338 .nil .nil) (.node o466 .nil .nil))) (.node o114 (.node o178 (.node (o306 P) .nil .nil) (.node o434 .nil .nil)) (.node o242 (.node o370 .nil .nil) .nil)))) (.node o26 (.node o42 (.node o74 (.node o138 (.node o266 .nil .nil) (.node o394 .nil .nil)) (.node o202 (.node o330 .nil .nil) (.node o458 .nil .nil))) (.node o106 (.node o170 (.node o298 .nil .nil) (.node o426 .nil .nil)) (.node o234 (.node o362 .nil .nil) .nil))) (.node o58 (.node o90 (.node o154 (.node o282 .nil .nil) (.node o410 .nil .nil)) (.node o218 (.node o346 .nil .nil) (.node o474 .nil .nil))) (.node o122 (.node o186 (.node o314 .nil .nil) (.node o442 .nil .nil)) (.node o250 (.node o378 .nil .nil) .nil))))) (.node o14 (.node o22 (.node o38 (.node o70 (.node o134 (.node o262 .nil .nil) (.node o390 .nil .nil)) (.node o198 (.node o326 .nil .nil) (.node o454 .nil .nil))) (.node o102 (.node o166 (.node o294 .nil .nil) (.node o422 .nil .nil)) (.node o230 (.node o358 .nil .nil) (.node o486 .nil .nil)))) (.node o54 (.node o86 (.node o150 (.node o278 .nil .nil) (.node o406 .nil .nil)) (.node o214 (.node o342 .nil .nil) (.node o470 .nil .nil))) (.node o118 (.node o182 (.node o310 .nil .nil) (.node o438 .nil .nil)) (.node o246 (.node o374 .nil .nil) .nil)))) (.node o30 (.node o46 (.node o78 (.node o142 (.node o270 .nil .nil) (.node o398 .nil .nil)) (.node o206 (.node o334 .nil .nil) (.node o462 .nil .nil))) (.node o110 (.node o174 (.node o302 .nil .nil) (.node o430 .nil .nil)) (.node o238 (.node o366 .nil .nil) .nil))) (.node o62 (.node o94 (.node o158 (.node o286 .nil .nil) (.node o414 .nil .nil)) (.node o222 (.node o350 .nil .nil) (.node o478 .nil .nil))) (.node o126 (.node o190 (.node o318 .nil .nil) (.node o446 .nil .nil)) (.node o254 (.node o382 .nil .nil) .nil)))))))
noncomputable def tree83 (P : Params) : BT := .node (boot_o_0 P) (.node (boot_o_1 P) (.node (o3v768 P) (.node (boot_o_7 P) (.node o15 (.node o31 (.node (o63 P) (.node o127 (.node o255 (.node o511 .nil .nil) .nil) (.node o383 .nil .nil)) (.node o191 (.node o319 (.node o575 .nil .nil) .nil) (.node o447 .nil .nil))) (.node o95 (.node o159 (.node o287 (.node o543 .nil .nil) .nil) (.node o415 .nil .nil)) (.node o223 (.node o351 (.node o607 .nil .nil) .nil) (.node o479 .nil .nil)))) (.node o47 (.node o79 (.node o143 (.node o271 (.node o527 .nil .nil) .nil) (.node o399 .nil .nil)) (.node o207 (.node o335 (.node o591 .nil .nil) .nil) (.node o463 .nil .nil))) (.node (o111 P) (.node o175 (.node o303 (.node o559 .nil .nil) .nil) (.node o431 .nil .nil)) (.node o239 (.node o367 (.node o623 .nil .nil) .nil) (.node o495 .nil .nil))))) (.node o23 (.node o39 (.node o71 (.node o135 (.node o263 (.node o519 .nil .nil) .nil) (.node o391 .nil .nil)) (.node o199 (.node o327 (.node o583 .nil .nil) .nil) (.node o455 .nil .nil))) (.node (o103 P) (.node o167 (.node o295 (.node o551 .nil .nil) .nil) (.node o423 .nil .nil)) (.node o231 (.node o359 (.node o615 .nil .nil) .nil) (.node o487 .nil .nil)))) (.node o55 (.node o87 (.node o151 (.node o279 (.node o535 .nil .nil) .nil) (.node o407 .nil .nil)) (.node o215 (.node o343 (.node o599 .nil .nil) .nil) (.node o471 .nil .nil))) (.node o119 (.node o183 (.node o311 (.node o567 .nil .nil) .nil) (.node o439 .nil .nil)) (.node o247 (.node o375 (.node o631 .nil .nil) .nil) (.node o503 .nil .nil)))))) (.node o11 (.node o19 (.node o35 (.node o67 (.node o131 (.node o259 (.node o515 .nil .nil) .nil) (.node o387 .nil .nil)) (.node o195 (.node o323 (.node o579 .nil .nil) .nil) (.node o451 .nil .nil))) (.node o99 (.node o163 (.node o291 (.node o547 .nil .nil) .nil) (.node o419 .nil .nil)) (.node o227 (.node o355 (.node o611 .nil .nil) .nil) (.node o483 .nil .nil)))) (.node o51 (.node o83 (.node o147 (.node o275 (.node o531 .nil .nil) .nil) (.node o403 .nil .nil)) (.node o211 (.node o339 (.node o595 .nil .nil) .nil) (.node o467 .nil .nil))) (.node o115 (.node o179 (.node o307 (.node o563 .nil .nil) .nil) (.node o435 .nil .nil)) (.node o243 (.node o371 (.node o627 .nil .nil) .nil) (.node o499 .nil .nil))))) (.node o27 (.node o43 (.node o75 (.node o139 (.node o267 (.node o523 .nil .nil) .nil) (.node o395 .nil .nil)) (.node o203 (.node o331 (.node o587 .nil .nil) .nil) (.node o459 .nil .nil))) (.node o107 (.node o171 (.node o299 (.node o555 .nil .nil) .nil) (.node o427 .nil .nil)) (.node o235 (.node o363 (.node o619 .nil .nil) .nil) (.node o491 .nil .nil)))) (.node o59 (.node o91 (.node o155 (.node o283 (.node o539 .nil .nil) .nil) (.node o411 .nil .nil)) (.node o219 (.node o347 (.node o603 .nil .nil) .nil) (.node o475 .nil .nil))) (.node o123 (.node o187 (.node o315 (.node o571 .nil .nil) .nil) (.node o443 .nil .nil)) (.node o251 (.node o379 .nil .nil) (.node o507 .nil .nil))))))) (.node (boot_o_5 P) (.node (boot_o_9 P) (.node o17 (.node o33 (.node (o65 P) (.node o129 (.node o257 (.node o513 .nil .nil) .nil) (.node o385 .nil .nil)) (.node o193 (.node o321 (.node o577 .nil .nil) .nil) (.node o449 .nil .nil))) (.node o97 (.node o161 (.node o289 (.node o545 .nil .nil) .nil) (.node o417 .nil .nil)) (.node o225 (.node o353 (.node o609 .nil .nil) .nil) (.node o481 .nil .nil)))) (.node o49 (.node (o81 P) (.node (o145 P) (.node o273 (.node o529 .nil .nil) .nil) (.node o401 .nil .nil)) (.node o209 (.node o337 (.node o593 .nil .nil) .nil) (.node o465 .nil .nil))) (.node o113 (.node o177 (.node o305 (.node o561 .nil .nil) .nil) (.node o433 .nil .nil)) (.node o241 (.node o369 (.node o625 .nil .nil) .nil) (.node o497 .nil .nil))))) (.node o25 (.node o41 (.node o73 (.node o137 (.node o265 (.node o521 .nil .nil) .nil) (.node o393 .nil .nil)) (.node o201 (.node o329 (.node o585 .nil .nil) .nil) (.node o457 .nil .nil))) (.node o105 (.node o169 (.node o297 (.node o553 .nil .nil) .nil) (.node o425 .nil .nil)) (.node o233 (.node o361 (.node o617 .nil .nil) .nil) (.node o489 .nil .nil)))) (.node (o57 P) (.node (o89 P) (.node (o153 P) (.node o281 (.node o537 .nil .nil) .nil) (.node o409 .nil .nil)) (.node o217 (.node o345 (.node o601 .nil .nil) .nil) (.node o473 .nil .nil))) (.node o121 (.node o185 (.node o313 (.node o569 .nil .nil) .nil) (.node o441 .nil .nil)) (.node o249 (.node o377 (.node o633 .nil .nil) .nil) (.node o505 .nil .nil)))))) (.node o13 (.node o21 (.node (o37 P) (.node o69 (.node o133 (.node o261 (.node o517 .nil .nil) .nil) (.node o389 .nil .nil)) (.node o197 (.node o325 (.node o581 .nil .nil) .nil) (.node o453 .nil .nil))) (.node o101 (.node o165 (.node o293 (.node o549 .nil .nil) .nil) (.node o421 .nil .nil)) (.node o229 (.node o357 (.node o613 .nil .nil) .nil) (.node o485 .nil .nil)))) (.node o53 (.node o85 (.node o149 (.node o277 (.node o533 .nil .nil) .nil) (.node o405 .nil .nil)) (.node o213 (.node o341 (.node o597 .nil .nil) .nil) (.node o469 .nil .nil))) (.node o117 (.node o181 (.node o309 (.node o565 .nil .nil) .nil) (.node o437 .nil .nil)) (.node o245 (.node o373 (.node o629 .nil .nil) .nil) (.node o501 .nil .nil))))) (.node o29 (.node o45 (.node o77 (.node o141 (.node o269 (.node o525 .nil .nil) .nil) (.node o397 .nil .nil)) (.node o205 (.node (o333 P) (.node o589 .nil .nil) .nil) (.node o461 .nil .nil))) (.node o109 (.node o173 (.node o301 (.node o557 .nil .nil) .nil) (.node o429 .nil .nil)) (.node o237 (.node o365 (.node o621 .nil .nil) .nil) (.node o493 .nil .nil)))) (.node o61 (.node o93 (.node o157 (.node o285 (.node o541 .nil .nil) .nil) (.node o413 .nil .nil)) (.node o221 (.node o349 (.node o605 .nil .nil) .nil) (.node o477 .nil .nil))) (.node o125 (.node o189 (.node o317 (.node o573 .nil .nil) .nil) (.node o445 .nil .nil)) (.node o253 (.node o381 .nil .nil) (.node o509 .nil .nil)))))))) (.node (o2 P) (.node (boot_o_4 P) (.node (boot_o_8 P) (.node o16 (.node o32 (.node o64 (.node o128 (.node o256 (.node o512 .nil .nil) .nil) (.node o384 .nil .nil)) (.node o192 (.node o320 (.node o576 .nil .nil) .nil) (.node o448 .nil .nil))) (.node o96 (.node o160 (.node o288 (.node o544 .nil .nil) .nil) (.node o416 .nil .nil)) (.node o224 (.node o352 (.node o608 .nil .nil) .nil) (.node o480 .nil .nil)))) (.node o48 (.node o80 (.node o144 (.node o272 (.node o528 .nil .nil) .nil) (.node o400 .nil .nil)) (.node o208 (.node o336 (.node o592 .nil .nil) .nil) (.node o464 .nil .nil))) (.node o112 (.node o176 (.node o304 (.node o560 .nil .nil) .nil) (.node o432 .nil .nil)) (.node o240 (.node o368 (.node o624 .nil .nil) .nil) (.node o496 .nil .nil))))) (.node (o24 P) (.node o40 (.node o72 (.node o136 (.node o264 (.node o520 .nil .nil) .nil) (.node o392 .nil .nil)) (.node o200 (.node o328 (.node o584 .nil .nil) .nil) (.node o456 .nil .nil))) (.node o104 (.node o168 (.node o296 (.node o552 .nil .nil) .nil) (.node o424 .nil .nil)) (.node o232 (.node o360 (.node o616 .nil .nil) .nil) (.node o488 .nil .nil)))) (.node o56 (.node o88 (.node o152 (.node o280 (.node o536 .nil .nil) .nil) (.node o408 .nil .nil)) (.node o216 (.node o344 (.node o600 .nil .nil) .nil) (.node o472 .nil .nil))) (.node o120 (.node o184 (.node o312 (.node o568 .nil .nil) .nil) (.node o440 .nil .nil)) (.node o248 (.node o376 (.node o632 .nil .nil) .nil) (.node o504 .nil .nil)))))) (.node o12v769 (.node o20 (.node o36 (.node (o68 P) (.node (o132 P) (.node o260 (.node o516 .nil .nil) .nil) (.node o388 .nil .nil)) (.node o196 (.node o324 (.node o580 .nil .nil) .nil) (.node o452 .nil .nil))) (.node o100 (.node o164 (.node o292 (.node o548 .nil .nil) .nil) (.node o420 .nil .nil)) (.node o228 (.node o356 (.node o612 .nil .nil) .nil) (.node o484 .nil .nil)))) (.node o52 (.node o84 (.node o148 (.node o276 (.node o532 .nil .nil) .nil) (.node o404 .nil .nil)) (.node o212 (.node o340 (.node o596 .nil .nil) .nil) (.node o468 .nil .nil))) (.node o116 (.node (o180 P) (.node o308 (.node o564 .nil .nil) .nil) (.node o436 .nil .nil)) (.node o244 (.node o372 (.node o628 .nil .nil) .nil) (.node o500 .nil .nil))))) (.node o28 (.node (o44 P) (.node o76 (.node o140 (.node o268 (.node o524 .nil .nil) .nil) (.node o396 .nil .nil)) (.node o204 (.node o332 (.node o588 .nil .nil) .nil) (.node o460 .nil .nil))) (.node o108 (.node o172 (.node o300 (.node o556 .nil .nil) .nil) (.node o428 .nil .nil)) (.node o236 (.node o364 (.node o620 .nil .nil) .nil) (.node o492 .nil .nil)))) (.node o60 (.node o92 (.node o156 (.node o284 (.node o540 .nil .nil) .nil) (.node o412 .nil .nil)) (.node o220 (.node o348 (.node o604 .nil .nil) .nil) (.node o476 .nil .nil))) (.node (o124 P) (.node o188 (.node o316 (.node o572 .nil .nil) .nil) (.node o444 .nil .nil)) (.node o252 (.node o380 .nil .nil) (.node o508 .nil .nil))))))) (.node (boot_o_6 P) (.node (boot_o_10 P) (.node o18 (.node o34 (.node o66 (.node o130 (.node o258 (.node o514 .nil .nil) .nil) (.node o386 .nil .nil)) (.node o194 (.node o322 (.node o578 .nil .nil) .nil) (.node o450 .nil .nil))) (.node o98 (.node o162 (.node o290 (.node o546 .nil .nil) .nil) (.node o418 .nil .nil)) (.node o226 (.node o354 (.node o610 .nil .nil) .nil) (.node o482 .nil .nil)))) (.node o50 (.node o82 (.node o146 (.node o274 (.node o530 .nil .nil) .nil) (.node o402 .nil .nil)) (.node o210 (.node o338 (.node o594 .nil .nil) .nil) (.node o466 .nil .nil))) (.node o114 (.node o178 (.node (o306 P) (.node o562 .nil .nil) .nil) (.node o434 .nil .nil)) (.node o242 (.node o370 (.node o626 .nil .nil) .nil) (.node o498 .nil .nil))))) (.node o26 (.node o42 (.node o74 (.node o138 (.node o266 (.node o522 .nil .nil) .nil) (.node o394 .nil .nil)) (.node o202 (.node o330 (.node o586 .nil .nil) .nil) (.node o458 .nil .nil))) (.node o106 (.node o170 (.node o298 (.node o554 .nil .nil) .nil) (.node o426 .nil .nil)) (.node o234 (.node o362 (.node o618 .nil .nil) .nil) (.node o490 .nil .nil)))) (.node o58 (.node o90 (.node o154 (.node o282 (.node o538 .nil .nil) .nil) (.node o410 .nil .nil)) (.node o218 (.node o346 (.node o602 .nil .nil) .nil) (.node o474 .nil .nil))) (.node o122 (.node o186 (.node o314 (.node o570 .nil .nil) .nil) (.node o442 .nil .nil)) (.node o250 (.node o378 (.node o634 .nil .nil) .nil) (.node o506 .nil .nil)))))) (.node o14 (.node o22 (.node o38 (.node o70 (.node o134 (.node o262 (.node o518 .nil .nil) .nil) (.node o390 .nil .nil)) (.node o198 (.node o326 (.node o582 .nil .nil) .nil) (.node o454 .nil .nil))) (.node o102 (.node o166 (.node o294 (.node o550 .nil .nil) .nil) (.node o422 .nil .nil)) (.node o230 (.node o358 (.node o614 .nil .nil) .nil) (.node o486 .nil .nil)))) (.node o54 (.node o86 (.node o150 (.node o278 (.node o534 .nil .nil) .nil) (.node o406 .nil .nil)) (.node o214 (.node o342 (.node o598 .nil .nil) .nil) (.node o470 .nil .nil))) (.node o118 (.node o182 (.node o310 (.node o566 .nil .nil) .nil) (.node o438 .nil .nil)) (.node o246 (.node o374 (.node o630 .nil .nil) .nil) (.node o502 .nil .nil))))) (.node o30 (.node o46 (.node o78 (.node o142 (.node o270 (.node o526 .nil .nil) .nil) (.node o398 .nil .nil)) (.node o206 (.node o334 (.node o590 .nil .nil) .nil) (.node o462 .nil .nil))) (.node o110 (.node o174 (.node o302 (.node o558 .nil .nil) .nil) (.node o430 .nil .nil)) (.node o238 (.node o366 (.node o622 .nil .nil) .nil) (.node o494 .nil .nil)))) (.node o62 (.node o94 (.node o158 (.node o286 (.node o542 .nil .nil) .nil) (.node o414 .nil .nil)) (.node o222 (.node o350 (.node o606 .nil .nil) .nil) (.node o478 .nil .nil))) (.node o126 (.node o190 (.node o318 (.node o574 .nil .nil) .nil) (.node o446 .nil .nil)) (.node o254 (.node o382 .nil .nil) (.node o510 .nil .nil))))))))
noncomputable def tree94 (P : Params) : BT := .node (boot_o_0 P) (.node (boot_o_1 P) (.node (o3 P) (.node (boot_o_7 P) (.node o15 (.node o31 (.node (o63 P) (.node o127 (.node o255 (.node o511 .nil .nil) .nil) (.node o383 (.node o639 .nil .nil) .nil)) (.node o191 (.node o319 (.node o575 .nil .nil) .nil) (.node o447 (.node o703 .nil .nil) .nil))) (.node o95 (.node o159 (.node o287 (.node o543 .nil .nil) .nil) (.node o415 (.node o671 .nil .nil) .nil)) (.node o223 (.node o351 (.node o607 .nil .nil) .nil) (.node o479 .nil .nil)))) (.node o47 (.node o79 (.node o143 (.node o271 (.node o527 .nil .nil) .nil) (.node o399 (.node o655 .nil .nil) .nil)) (.node o207 (.node o335 (.node o591 .nil .nil) .nil) (.node o463 .nil .nil))) (.node (o111 P) (.node o175 (.node o303 (.node o559 .nil .nil) .nil) (.node o431 (.node o687 .nil .nil) .nil)) (.node o239 (.node o367 (.node o623 .nil .nil) .nil) (.node o495 .nil .nil))))) (.node o23 (.node o39 (.node o71 (.node o135 (.node o263 (.node o519 .nil .nil) .nil) (.node o391 (.node o647 .nil .nil) .nil)) (.node o199 (.node o327 (.node o583 .nil .nil) .nil) (.node o455 .nil .nil))) (.node (o103 P) (.node o167 (.node o295 (.node o551 .nil .nil) .nil) (.node o423 (.node o679 .nil .nil) .nil)) (.node o231 (.node o359 (.node o615 .nil .nil) .nil) (.node o487 .nil .nil)))) (.node o55 (.node o87 (.node o151 (.node o279 (.node o535 .nil .nil) .nil) (.node o407 (.node o663 .nil .nil) .nil)) (.node o215 (.node o343 (.node o599 .nil .nil) .nil) (.node o471 .nil .nil))) (.node o119 (.node o183 (.node o311 (.node o567 .nil .nil) .nil) (.node o439 (.node o695 .nil .nil) .nil)) (.node o247 (.node o375 (.node o631 .nil .nil) .nil) (.node o503 .nil .nil)))))) (.node o11 (.node o19 (.node o35 (.node o67 (.node o131 (.node o259 (.node o515 .nil .nil) .nil) (.node o387 (.node o643 .nil .nil) .nil)) (.node o195 (.node o323 (.node o579 .nil .nil) .nil) (.node o451 .nil .nil))) (.node o99 (.node o163 (.node o291 (.node o547 .nil .nil) .nil) (.node o419 (.node o675 .nil .nil) .nil)) (.node o227 (.node o355 (.node o611 .nil .nil) .nil) (.node o483 .nil .nil)))) (.node o51 (.node o83 (.node o147 (.node o275 (.node o531 .nil .nil) .nil) (.node o403 (.node o659 .nil .nil) .nil)) (.node o211 (.node o339 (.node o595 .nil .nil) .nil) (.node o467 .nil .nil))) (.node o115 (.node o179 (.node o307 (.node o563 .nil .nil) .nil) (.node o435 (.node o691 .nil .nil) .nil)) (.node o243 (.node o371 (.node o627 .nil .nil) .nil) (.node o499 .nil .nil))))) (.node o27 (.node o43 (.node o75 (.node o139 (.node o267 (.node o523 .nil .nil) .nil) (.node o395 (.node o651 .nil .nil) .nil)) (.node o203 (.node o331 (.node o587 .nil .nil) .nil) (.node o459 .nil .nil))) (.node o107 (.node o171 (.node o299 (.node o555 .nil .nil) .nil) (.node o427 (.node o683 .nil .nil) .nil)) (.node o235 (.node o363 (.node o619 .nil .nil) .nil) (.node o491 .nil .nil)))) (.node o59 (.node o91 (.node o155 (.node o283 (.node o539 .nil .nil) .nil) (.node o411 (.node o667 .nil .nil) .nil)) (.node o219 (.node o347 (.node o603 .nil .nil) .nil) (.node o475 .nil .nil))) (.node o123 (.node o187 (.node o315 (.node o571 .nil .nil) .nil) (.node o443 (.node o699 .nil .nil) .nil)) (.node o251 (.node o379 (.node o635 .nil .nil) .nil) (.node o507 .nil .nil))))))) (.node (boot_o_5 P) (.node (boot_o_9 P) (.node o17 (.node o33 (.node (o65 P) (.node o129 (.node o257 (.node o513 .nil .nil) .nil) (.node o385 (.node o641 .nil .nil) .nil)) (.node o193 (.node o321 (.node o577 .nil .nil) .nil) (.node o449 .nil .nil))) (.node o97 (.node o161 (.node o289 (.node o545 .nil .nil) .nil) (.node o417 (.node o673 .nil .nil) .nil)) (.node o225 (.node o353 (.node o609 .nil .nil) .nil) (.node o481 .nil .nil)))) (.node o49 (.node (o81 P) (.node (o145 P) (.node o273 (.node o529 .nil .nil) .nil) (.node o401 (.node o657 .nil .nil) .nil)) (.node o209 (.node o337 (.node o593 .nil .nil) .nil) (.node o465 .nil .nil))) (.node o113 (.node o177 (.node o305 (.node o561 .nil .nil) .nil) (.node o433 (.node o689 .nil .nil) .nil)) (.node o241 (.node o369 (.node o625 .nil .nil) .nil) (.node o497 .nil .nil))))) (.node o25 (.node o41 (.node o73 (.node o137 (.node o265 (.node o521 .nil .nil) .nil) (.node o393 (.node o649 .nil .nil) .nil)) (.node o201 (.node o329 (.node o585 .nil .nil) .nil) (.node o457 .nil .nil))) (.node o105 (.node o169 (.node o297 (.node o553 .nil .nil) .nil) (.node o425 (.node o681 .nil .nil) .nil)) (.node o233 (.node o361 (.node o617 .nil .nil) .nil) (.node o489 .nil .nil)))) (.node (o57 P) (.node (o89 P) (.node (o153 P) (.node o281 (.node o537 .nil .nil) .nil) (.node o409 (.node o665 .nil .nil) .nil)) (.node o217 (.node o345 (.node o601 .nil .nil) .nil) (.node o473 .nil .nil))) (.node o121 (.node o185 (.node o313 (.node o569 .nil .nil) .nil) (.node o441 (.node o697 .nil .nil) .nil)) (.node o249 (.node o377 (.node o633 .nil .nil) .nil) (.node o505 .nil .nil)))))) (.node o13 (.node o21 (.node (o37 P) (.node o69 (.node o133 (.node o261 (.node o517 .nil .nil) .nil) (.node o389 (.node o645 .nil .nil) .nil)) (.node o197 (.node o325 (.node o581 .nil .nil) .nil) (.node o453 .nil .nil))) (.node o101 (.node o165 (.node o293 (.node o549 .nil .nil) .nil) (.node o421 (.node o677 .nil .nil) .nil)) (.node o229 (.node o357 (.node o613 .nil .nil) .nil) (.node o485 .nil .nil)))) (.node o53 (.node o85 (.node o149 (.node o277 (.node o533 .nil .nil) .nil) (.node o405 (.node o661 .nil .nil) .nil)) (.node o213 (.node o341 (.node o597 .nil .nil) .nil) (.node o469 .nil .nil))) (.node o117 (.node o181 (.node o309 (.node o565 .nil .nil) .nil) (.node o437 (.node o693 .nil .nil) .nil)) (.node o245 (.node o373 (.node o629 .nil .nil) .nil) (.node o501 .nil .nil))))) (.node o29 (.node o45 (.node o77 (.node o141 (.node o269 (.node o525 .nil .nil) .nil) (.node o397 (.node o653 .nil .nil) .nil)) (.node o205 (.node (o333 P) (.node o589 .nil .nil) .nil) (.node o461 .nil .nil))) (.node o109 (.node o173 (.node o301 (.node o557 .nil .nil) .nil) (.node o429 (.node o685 .nil .nil) .nil)) (.node o237 (.node o365 (.node o621 .nil .nil) .nil) (.node o493 .nil .nil)))) (.node o61 (.node o93 (.node o157 (.node o285 (.node o541 .nil .nil) .nil) (.node o413 (.node o669 .nil .nil) .nil)) (.node o221 (.node o349 (.node o605 .nil .nil) .nil) (.node o477 .nil .nil))) (.node o125 (.node o189 (.node o317 (.node o573 .nil .nil) .nil) (.node o445 (.node o701 .nil .nil) .nil)) (.node o253 (.node o381 (.node o637 .nil .nil) .nil) (.node o509 .nil .nil)))))))) (.node (o2 P) (.node (boot_o_4 P) (.node (boot_o_8 P) (.node o16 (.node o32 (.node o64 (.node o128 (.node o256 (.node o512 .nil .nil) .nil) (.node o384 (.node o640 .nil .nil) .nil)) (.node o192 (.node o320 (.node o576 .nil .nil) .nil) (.node o448 .nil .nil))) (.node o96 (.node o160 (.node o288 (.node o544 .nil .nil) .nil) (.node o416 (.node o672 .nil .nil) .nil)) (.node o224 (.node o352 (.node o608 .nil .nil) .nil) (.node o480 .nil .nil)))) (.node o48 (.node o80 (.node o144 (.node o272 (.node o528 .nil .nil) .nil) (.node o400 (.node o656 .nil .nil) .nil)) (.node o208 (.node o336 (.node o592 .nil .nil) .nil) (.node o464 .nil .nil))) (.node o112 (.node o176 (.node o304 (.node o560 .nil .nil) .nil) (.node o432 (.node o688 .nil .nil) .nil)) (.node o240 (.node o368 (.node o624 .nil .nil) .nil) (.node o496 .nil .nil))))) (.node (o24 P) (.node o40 (.node o72 (.node o136 (.node o264 (.node o520 .nil .nil) .nil) (.node o392 (.node o648 .nil .nil) .nil)) (.node o200 (.node o328 (.node o584 .nil .nil) .nil) (.node o456 .nil .nil))) (.node o104 (.node o168 (.node o296 (.node o552 .nil .nil) .nil) (.node o424 (.node o680 .nil .nil) .nil)) (.node o232 (.node o360 (.node o616 .nil .nil) .nil) (.node o488 .nil .nil)))) (.node o56 (.node o88 (.node o152 (.node o280 (.node o536 .nil .nil) .nil) (.node o408 (.node o664 .nil .nil) .nil)) (.node o216 (.node o344 (.node o600 .nil .nil) .nil) (.node o472 .nil .nil))) (.node o120 (.node o184 (.node o312 (.node o568 .nil .nil) .nil) (.node o440 (.node o696 .nil .nil) .nil)) (.node o248 (.node o376 (.node o632 .nil .nil) .nil) (.node o504 .nil .nil)))))) (.node o12 (.node o20 (.node o36 (.node (o68 P) (.node (o132 P) (.node o260 (.node o516 .nil .nil) .nil) (.node o388 (.node o644 .nil .nil) .nil)) (.node o196 (.node o324 (.node o580 .nil .nil) .nil) (.node o452 .nil .nil))) (.node o100 (.node o164 (.node o292 (.node o548 .nil .nil) .nil) (.node o420 (.node o676 .nil .nil) .nil)) (.node o228 (.node o356 (.node o612 .nil .nil) .nil) (.node o484 .nil .nil)))) (.node o52 (.node o84 (.node o148 (.node o276 (.node o532 .nil .nil) .nil) (.node o404 (.node o660 .nil .nil) .nil)) (.node o212 (.node o340 (.node o596 .nil .nil) .nil) (.node o468 .nil .nil))) (.node o116 (.node (o180 P) (.node o308 (.node o564 .nil .nil) .nil) (.node o436 (.node o692 .nil .nil) .nil)) (.node o244 (.node o372 (.node o628 .nil .nil) .nil) (.node o500 .nil .nil))))) (.node o28 (.node (o44 P) (.node o76 (.node o140 (.node o268 (.node o524 .nil .nil) .nil) (.node o396 (.node o652 .nil .nil) .nil)) (.node o204 (.node o332 (.node o588 .nil .nil) .nil) (.node o460 .nil .nil))) (.node o108 (.node o172 (.node o300 (.node o556 .nil .nil) .nil) (.node o428 (.node o684 .nil .nil) .nil)) (.node o236 (.node o364 (.node o620 .nil .nil) .nil) (.node o492 .nil .nil)))) (.node o60 (.node o92 (.node o156 (.node o284 (.node o540 .nil .nil) .nil) (.node o412 (.node o668 .nil .nil) .nil)) (.node o220 (.node o348 (.node o604 .nil .nil) .nil) (.node o476 .nil .nil))) (.node (o124 P) (.node o188 (.node o316 (.node o572 .nil .nil) .nil) (.node o444 (.node o700 .nil .nil) .nil)) (.node o252 (.node o380 (.node o636 .nil .nil) .nil) (.node o508 .nil .nil))))))) (.node (boot_o_6 P) (.node (boot_o_10 P) (.node o18 (.node o34 (.node o66 (.node o130 (.node o258 (.node o514 .nil .nil) .nil) (.node o386 (.node o642 .nil .nil) .nil)) (.node o194 (.node o322 (.node o578 .nil .nil) .nil) (.node o450 .nil .nil))) (.node o98 (.node o162 (.node o290 (.node o546 .nil .nil) .nil) (.node o418 (.node o674 .nil .nil) .nil)) (.node o226 (.node o354 (.node o610 .nil .nil) .nil) (.node o482 .nil .nil)))) (.node o50 (.node o82 (.node o146 (.node o274 (.node o530 .nil .nil) .nil) (.node o402 (.node o658 .nil .nil) .nil)) (.node o210 (.node o338 (.node o594 .nil .nil) .nil) (.node o466 .nil .nil))) (.node o114 (.node o178 (.node (o306 P) (.node o562 .nil .nil) .nil) (.node o434 (.node o690 .nil .nil) .nil)) (.node o242 (.node o370 (.node o626 .nil .nil) .nil) (.node o498 .nil .nil))))) (.node o26 (.node o42 (.node o74 (.node o138 (.node o266 (.node o522 .nil .nil) .nil) (.node o394 (.node o650 .nil .nil) .nil)) (.node o202 (.node o330 (.node o586 .nil .nil) .nil) (.node o458 .nil .nil))) (.node o106 (.node o170 (.node o298 (.node o554 .nil .nil) .nil) (.node o426 (.node o682 .nil .nil) .nil)) (.node o234 (.node o362 (.node o618 .nil .nil) .nil) (.node o490 .nil .nil)))) (.node o58 (.node o90 (.node o154 (.node o282 (.node o538 .nil .nil) .nil) (.node o410 (.node o666 .nil .nil) .nil)) (.node o218 (.node o346 (.node o602 .nil .nil) .nil) (.node o474 .nil .nil))) (.node o122 (.node o186 (.node o314 (.node o570 .nil .nil) .nil) (.node o442 (.node o698 .nil .nil) .nil)) (.node o250 (.node o378 (.node o634 .nil .nil) .nil) (.node o506 .nil .nil)))))) (.node o14 (.node o22 (.node o38 (.node o70 (.node o134 (.node o262 (.node o518 .nil .nil) .nil) (.node o390 (.node o646 .nil .nil) .nil)) (.node o198 (.node o326 (.node o582 .nil .nil) .nil) (.node o454 .nil .nil))) (.node o102 (.node o166 (.node o294 (.node o550 .nil .nil) .nil) (.node o422 (.node o678 .nil .nil) .nil)) (.node o230 (.node o358 (.node o614 .nil .nil) .nil) (.node o486 .nil .nil)))) (.node o54 (.node o86 (.node o150 (.node o278 (.node o534 .nil .nil) .nil) (.node o406 (.node o662 .nil .nil) .nil)) (.node o214 (.node o342 (.node o598 .nil .nil) .nil) (.node o470 .nil .nil))) (.node o118 (.node o182 (.node o310 (.node o566 .nil .nil) .nil) (.node o438 (.node o694 .nil .nil) .nil)) (.node o246 (.node o374 (.node o630 .nil .nil) .nil) (.node o502 .nil .nil))))) (.node o30 (.node o46 (.node o78 (.node o142 (.node o270 (.node o526 .nil .nil) .nil) (.node o398 (.node o654 .nil .nil) .nil)) (.node o206 (.node o334 (.node o590 .nil .nil) .nil) (.node o462 .nil .nil))) (.node o110 (.node o174 (.node o302 (.node o558 .nil .nil) .nil) (.node o430 (.node o686 .nil .nil) .nil)) (.node o238 (.node o366 (.node o622 .nil .nil) .nil) (.node o494 .nil .nil)))) (.node o62 (.node o94 (.node o158 (.node o286 (.node o542 .nil .nil) .nil) (.node o414 (.node o670 .nil .nil) .nil)) (.node o222 (.node o350 (.node o606 .nil .nil) .nil) (.node o478 .nil .nil))) (.node o126 (.node o190 (.node o318 (.node o574 .nil .nil) .nil) (.node o446 (.node o702 .nil .nil) .nil)) (.node o254 (.node o382 (.node o638 .nil .nil) .nil) (.node o510 .nil .nil))))))))
noncomputable def heap0 (P : Params) : Heap := ⟨#[(boot_o_0 P), (boot_o_1 P), (boot_o_2 P), (boot_o_3 P), (boot_o_4 P), (boot_o_5 P), (boot_o_6 P), (boot_o_7 P), (boot_o_8 P), (boot_o_9 P), (boot_o_10 P), o11, o12v1, o13, o14], {}⟩
noncomputable def heapZ (P : Params) : Heap := ⟨#[(boot_o_0 P), (boot_o_1 P), (o2 P), (o3 P), (boot_o_4 P), (boot_o_5 P), (boot_o_6 P), (boot_o_7 P), (boot_o_8 P), (boot_o_9 P), (boot_o_10 P), o11, o12, o13, o14, o15, o16, o17, o18, o19, o20, o21, o22, o23, (o24 P), o25, o26, o27, o28, o29, o30, o31, o32, o33, o34, o35, o36, (o37 P), o38, o39, o40, o41, o42, o43, (o44 P), o45, o46, o47, o48, o49, o50, o51, o52, o53, o54, o55, o56, (o57 P), o58, o59, o60, o61, o62, (o63 P), o64, (o65 P), o66, o67, (o68 P), o69, o70, o71, o72, o73, o74, o75, o76, o77, o78, o79, o80, (o81 P), o82, o83, o84, o85, o86, o87, o88, (o89 P), o90, o91, o92, o93, o94, o95, o96, o97, o98, o99, o100, o101, o102, (o103 P), o104, o105, o106, o107, o108, o109, o110, (o111 P), o112, o113, o114, o115, o116, o117, o118, o119, o120, o121, o122, o123, (o124 P), o125, o126, o127, o128, o129, o130, o131, (o132 P), o133, o134, o135, o136, o137, o138, o139, o140, o141, o142, o143, o144, (o145 P), o146, o147, o148, o149, o150, o151, o152, (o153 P), o154, o155, o156, o157, o158, o159, o160, o161, o162, o163, o164, o165, o166, o167, o168, o169, o170, o171, o172, o173, o174, o175, o176, o177, o178, o179, (o180 P), o181, o182, o183, o184, o185, o186, o187, o188, o189, o190, o191, o192, o193, o194, o195, o196, o197, o198, o199, o200, o201, o202, o203, o204, o205, o206, o207, o208, o209, o210, o211, o212, o213, o214, o215, o216, o217, o218, o219, o220, o221, o222, o223, o224, o225, o226, o227, o228, o229, o230, o231, o232, o233, o234, o235, o236, o237, o238, o239, o240, o241, o242, o243, o244, o245, o246, o247, o248, o249, o250, o251, o252, o253, o254, o255, o256, o257, o258, o259, o260, o261, o262, o263, o264, o265, o266, o267, o268, o269, o270, o271, o272, o273, o274, o275, o276, o277, o278, o279, o280, o281, o282, o283, o284, o285, o286, o287, o288, o289, o290, o291, o292, o293, o294, o295, o296, o297, o298, o299, o300, o301, o302, o303, o304, o305, (o306 P), o307, o308, o309, o310, o311, o312, o313, o314, o315, o316, o317, o318, o319, o320, o321, o322, o323, o324, o325, o326, o327, o328, o329, o330, o331, o332, (o333 P), o334, o335, o336, o337, o338, o339, o340, o341, o342, o343, o344, o345, o346, o347, o348, o349, o350, o351, o352, o353, o354, o355, o356, o357, o358, o359, o360, o361, o362, o363, o364, o365, o366, o367, o368, o369, o370, o371, o372, o373, o374, o375, o376, o377, o378, o379, o380, o381, o382, o383, o384, o385, o386, o387, o388, o389, o390, o391, o392, o393, o394, o395, o396, o397, o398, o399, o400, o401, o402, o403, o404, o405, o406, o407, o408, o409, o410, o411, o412, o413, o414, o415, o416, o417, o418, o419, o420, o421, o422, o423, o424, o425, o426, o427, o428, o429, o430, o431, o432, o433, o434, o435, o436, o437, o438, o439, o440, o441, o442, o443, o444, o445, o446, o447, o448, o449, o450, o451, o452, o453, o454, o455, o456, o457, o458, o459, o460, o461, o462, o463, o464, o465, o466, o467, o468, o469, o470, o471, o472, o473, o474, o475, o476, o477, o478, o479, o480, o481, o482, o483, o484, o485, o486, o487, o488, o489, o490, o491, o492, o493, o494, o495, o496, o497, o498, o499, o500, o501, o502, o503, o504, o505, o506, o507, o508, o509, o510, o511, o512, o513, o514, o515, o516, o517, o518, o519, o520, o521, o522, o523, o524, o525, o526, o527, o528, o529, o530, o531, o532, o533, o534, o535, o536, o537, o538, o539, o540, o541, o542, o543, o544, o545, o546, o547, o548, o549, o550, o551, o552, o553, o554, o555, o556, o557, o558, o559, o560, o561, o562, o563, o564, o565, o566, o567, o568, o569, o570, o571, o572, o573, o574, o575, o576, o577, o578, o579, o580, o581, o582, o583, o584, o585, o586, o587, o588, o589, o590, o591, o592, o593, o594, o595, o596, o597, o598, o599, o600, o601, o602, o603, o604, o605, o606, o607, o608, o609, o610, o611, o612, o613, o614, o615, o616, o617, o618, o619, o620, o621, o622, o623, o624, o625, o626, o627, o628, o629, o630, o631, o632, o633, o634, o635, o636, o637, o638, o639, o640, o641, o642, o643, o644, o645, o646, o647, o648, o649, o650, o651, o652, o653, o654, o655, o656, o657, o658, o659, o660, o661, o662, o663, o664, o665, o666, o667, o668, o669, o670, o671, o672, o673, o674, o675, o676, o677, o678, o679, o680, o681, o682, o683, o684, o685, o686, o687, o688, o689, o690, o691, o692, o693, o694, o695, o696, o697, o698, o699, o700, o701, o702, o703], {}⟩
noncomputable def heap_39 : Params → Frag := fun P => (nat_lit 2, (o2 P)) :: (nat_lit 3, (o3 P)) :: (nat_lit 15, o15) :: (nat_lit 17, o17) :: (nat_lit 18, o18) :: (nat_lit 20, o20) :: (nat_lit 21, o21) :: (nat_lit 22, o22) :: (nat_lit 29, o29) :: (nat_lit 31, o31) :: (nat_lit 32, o32) :: (nat_lit 34, o34) :: (nat_lit 35, o35) :: (nat_lit 36, o36) :: (nat_lit 37, (o37 P)) :: (nat_lit 38, o38) :: (nat_lit 39, o39) :: (nat_lit 49, o49) :: (nat_lit 51, o51) :: (nat_lit 52, o52) :: (nat_lit 54, o54) :: (nat_lit 55, o55) :: (nat_lit 56, o56) :: (nat_lit 57, (o57 P)) :: (nat_lit 58, o58) :: (nat_lit 59, o59) :: (nat_lit 60, o60) :: (nat_lit 63, (o63 P)) :: (nat_lit 64, o64) :: (nat_lit 73, o73) :: (nat_lit 75, o75) :: (nat_lit 76, o76) :: (nat_lit 78, o78) :: (nat_lit 79, o79) :: (nat_lit 80, o80) :: (nat_lit 81, (o81 P)) :: (nat_lit 82, o82) :: (nat_lit 83, o83) :: (nat_lit 84, o84) :: (nat_lit 94, o94) :: (nat_lit 95, o95) :: (nat_lit 97, o97) :: (nat_lit 98, o98) :: (nat_lit 100, o100) :: (nat_lit 101, o101) :: (nat_lit 102, o102) :: (nat_lit 103, (o103 P)) :: (nat_lit 104, o104) :: (nat_lit 105, o105) :: (nat_lit 106, o106) :: (nat_lit 116, o116) :: (nat_lit 118, o118) :: (nat_lit 119, o119) :: (nat_lit 121, o121) :: (nat_lit 122, o122) :: (nat_lit 123, o123) :: (nat_lit 124, (o124 P)) :: (nat_lit 125, o125) :: (nat_lit 126, o126) :: (nat_lit 127, o127) :: (nat_lit 137, o137) :: (nat_lit 139, o139) :: (nat_lit 140, o140) :: (nat_lit 142, o142) :: (nat_lit 143, o143) :: (nat_lit 144, o144) :: (nat_lit 145, (o145 P)) :: (nat_lit 146, o146) :: (nat_lit 147, o147) :: (nat_lit 148, o148) :: (nat_lit 158, o158) :: (nat_lit 160, o160) :: (nat_lit 161, o161) :: (nat_lit 163, o163) :: (nat_lit 164, o164) :: (nat_lit 165, o165) :: (nat_lit 167, o167) :: (nat_lit 168, o168) :: (nat_lit 170, o170) :: (nat_lit 171, o171) :: (nat_lit 172, o172) :: (nat_lit 174, o174) :: (nat_lit 175, o175) :: (nat_lit 177, o177) :: (nat_lit 178, o178) :: (nat_lit 179, o179) :: (nat_lit 180, (o180 P)) :: (nat_lit 181, o181) :: (nat_lit 182, o182) :: (nat_lit 183, o183) :: (nat_lit 186, o186) :: (nat_lit 187, o187) :: (nat_lit 189, o189) :: (nat_lit 190, o190) :: (nat_lit 192, o192) :: (nat_lit 193, o193) :: (nat_lit 194, o194) :: (nat_lit 196, o196) :: (nat_lit 197, o197) :: (nat_lit 199, o199) :: (nat_lit 200, o200) :: (nat_lit 201, o201) :: (nat_lit 203, o203) :: (nat_lit 204, o204) :: (nat_lit 206, o206) :: (nat_lit 207, o207) :: (nat_lit 208, o208) :: (nat_lit 210, o210) :: (nat_lit 211, o211) :: (nat_lit 213, o213) :: (nat_lit 214, o214) :: (nat_lit 215, o215) :: (nat_lit 217, o217) :: (nat_lit 218, o218) :: (nat_lit 220, o220) :: (nat_lit 221, o221) :: (nat_lit 222, o222) :: (nat_lit 224, o224) :: (nat_lit 225, o225) :: (nat_lit 227, o227) :: (nat_lit 228, o228) :: (nat_lit 229, o229) :: (nat_lit 231, o231) :: (nat_lit 232, o232) :: (nat_lit 234, o234) :: (nat_lit 235, o235) :: (nat_lit 236, o236) :: (nat_lit 238, o238) :: (nat_lit 239, o239) :: (nat_lit 241, o241) :: (nat_lit 242, o242) :: (nat_lit 243, o243) :: (nat_lit 245, o245) :: (nat_lit 246, o246) :: (nat_lit 248, o248) :: (nat_lit 249, o249) :: (nat_lit 250, o250) :: (nat_lit 252, o252) :: (nat_lit 253, o253) :: (nat_lit 255, o255) :: (nat_lit 256, o256) :: (nat_lit 257, o257) :: (nat_lit 259, o259) :: (nat_lit 260, o260) :: (nat_lit 262, o262) :: (nat_lit 263, o263) :: (nat_lit 264, o264) :: (nat_lit 266, o266) :: (nat_lit 267, o267) :: (nat_lit 269, o269) :: (nat_lit 270, o270) :: (nat_lit 271, o271) :: (nat_lit 273, o273) :: (nat_lit 274, o274) :: (nat_lit 276, o276) :: (nat_lit 277, o277) :: (nat_lit 278, o278) :: (nat_lit 280, o280) :: (nat_lit 281, o281) :: (nat_lit 283, o283) :: (nat_lit 284, o284) :: (nat_lit 285, o285) :: (nat_lit 287, o287) :: (nat_lit 288, o288) :: (nat_lit 290, o290) :: (nat_lit 291, o291) :: (nat_lit 292, o292) :: (nat_lit 295, o295) :: (nat_lit 296, o296) :: (nat_lit 297, o297) :: (nat_lit 299, o299) :: (nat_lit 300, o300) :: (nat_lit 302, o302) :: (nat_lit 303, o303) :: (nat_lit 311, o311) :: (nat_lit 313, o313) :: (nat_lit 314, o314) :: (nat_lit 316, o316) :: (nat_lit 317, o317) :: (nat_lit 318, o318) :: (nat_lit 320, o320) :: (nat_lit 321, o321) :: (nat_lit 323, o323) :: (nat_lit 324, o324) :: (nat_lit 325, o325) :: (nat_lit 327, o327) :: (nat_lit 328, o328) :: (nat_lit 330, o330) :: (nat_lit 331, o331) :: (nat_lit 332, o332) :: (nat_lit 333, (o333 P)) :: (nat_lit 334, o334) :: (nat_lit 335, o335) :: (nat_lit 336, o336) :: (nat_lit 339, o339) :: (nat_lit 342, o342) :: (nat_lit 343, o343) :: (nat_lit 344, o344) :: (nat_lit 346, o346) :: (nat_lit 347, o347) :: (nat_lit 349, o349) :: (nat_lit 350, o350) :: (nat_lit 351, o351) :: (nat_lit 353, o353) :: (nat_lit 354, o354) :: (nat_lit 356, o356) :: (nat_lit 357, o357) :: (nat_lit 358, o358) :: (nat_lit 360, o360) :: (nat_lit 361, o361) :: (nat_lit 363, o363) :: (nat_lit 364, o364) :: (nat_lit 365, o365) :: (nat_lit 367, o367) :: (nat_lit 368, o368) :: (nat_lit 370, o370) :: (nat_lit 371, o371) :: (nat_lit 372, o372) :: (nat_lit 374, o374) :: (nat_lit 375, o375) :: (nat_lit 377, o377) :: (nat_lit 378, o378) :: (nat_lit 379, o379) :: (nat_lit 381, o381) :: (nat_lit 382, o382) :: (nat_lit 384, o384) :: (nat_lit 385, o385) :: (nat_lit 386, o386) :: (nat_lit 388, o388) :: (nat_lit 389, o389) :: (nat_lit 391, o391) :: (nat_lit 392, o392) :: (nat_lit 393, o393) :: (nat_lit 395, o395) :: (nat_lit 396, o396) :: (nat_lit 398, o398) :: (nat_lit 399, o399) :: (nat_lit 400, o400) :: (nat_lit 402, o402) :: (nat_lit 403, o403) :: (nat_lit 405, o405) :: (nat_lit 406, o406) :: (nat_lit 407, o407) :: (nat_lit 409, o409) :: (nat_lit 410, o410) :: (nat_lit 412, o412) :: (nat_lit 413, o413) :: (nat_lit 414, o414) :: (nat_lit 416, o416) :: (nat_lit 417, o417) :: (nat_lit 419, o419) :: (nat_lit 420, o420) :: (nat_lit 421, o421) :: (nat_lit 423, o423) :: (nat_lit 424, o424) :: (nat_lit 426, o426) :: (nat_lit 427, o427) :: (nat_lit 428, o428) :: (nat_lit 430, o430) :: (nat_lit 431, o431) :: (nat_lit 433, o433) :: (nat_lit 434, o434) :: (nat_lit 435, o435) :: (nat_lit 437, o437) :: (nat_lit 438, o438) :: (nat_lit 440, o440) :: (nat_lit 441, o441) :: (nat_lit 442, o442) :: (nat_lit 444, o444) :: (nat_lit 445, o445) :: (nat_lit 447, o447) :: (nat_lit 448, o448) :: (nat_lit 449, o449) :: (nat_lit 451, o451) :: (nat_lit 452, o452) :: (nat_lit 454, o454) :: (nat_lit 455, o455) :: (nat_lit 456, o456) :: (nat_lit 458, o458) :: (nat_lit 459, o459) :: (nat_lit 461, o461) :: (nat_lit 462, o462) :: (nat_lit 463, o463) :: (nat_lit 465, o465) :: (nat_lit 466, o466) :: (nat_lit 468, o468) :: (nat_lit 469, o469) :: (nat_lit 470, o470) :: (nat_lit 473, o473) :: (nat_lit 474, o474) :: (nat_lit 475, o475) :: (nat_lit 477, o477) :: (nat_lit 478, o478) :: (nat_lit 480, o480) :: (nat_lit 481, o481) :: (nat_lit 482, o482) :: (nat_lit 484, o484) :: (nat_lit 485, o485) :: (nat_lit 487, o487) :: (nat_lit 488, o488) :: (nat_lit 489, o489) :: (nat_lit 491, o491) :: (nat_lit 492, o492) :: (nat_lit 494, o494) :: (nat_lit 495, o495) :: (nat_lit 496, o496) :: (nat_lit 498, o498) :: (nat_lit 499, o499) :: (nat_lit 501, o501) :: (nat_lit 502, o502) :: (nat_lit 503, o503) :: (nat_lit 505, o505) :: (nat_lit 506, o506) :: (nat_lit 508, o508) :: (nat_lit 509, o509) :: (nat_lit 510, o510) :: (nat_lit 513, o513) :: (nat_lit 514, o514) :: (nat_lit 515, o515) :: (nat_lit 517, o517) :: (nat_lit 518, o518) :: (nat_lit 520, o520) :: (nat_lit 521, o521) :: (nat_lit 522, o522) :: (nat_lit 524, o524) :: (nat_lit 525, o525) :: (nat_lit 527, o527) :: (nat_lit 528, o528) :: (nat_lit 529, o529) :: (nat_lit 531, o531) :: (nat_lit 532, o532) :: (nat_lit 534, o534) :: (nat_lit 535, o535) :: (nat_lit 536, o536) :: (nat_lit 538, o538) :: (nat_lit 539, o539) :: (nat_lit 541, o541) :: (nat_lit 542, o542) :: (nat_lit 543, o543) :: (nat_lit 546, o546) :: (nat_lit 547, o547) :: (nat_lit 548, o548) :: (nat_lit 550, o550) :: (nat_lit 551, o551) :: (nat_lit 553, o553) :: (nat_lit 554, o554) :: (nat_lit 555, o555) :: (nat_lit 557, o557) :: (nat_lit 558, o558) :: (nat_lit 560, o560) :: (nat_lit 561, o561) :: (nat_lit 562, o562) :: (nat_lit 564, o564) :: (nat_lit 565, o565) :: (nat_lit 567, o567) :: (nat_lit 568, o568) :: (nat_lit 569, o569) :: (nat_lit 571, o571) :: (nat_lit 572, o572) :: (nat_lit 574, o574) :: (nat_lit 575, o575) :: (nat_lit 576, o576) :: (nat_lit 578, o578) :: (nat_lit 579, o579) :: (nat_lit 581, o581) :: (nat_lit 582, o582) :: (nat_lit 583, o583) :: (nat_lit 585, o585) :: (nat_lit 586, o586) :: (nat_lit 588, o588) :: (nat_lit 589, o589) :: (nat_lit 590, o590) :: (nat_lit 592, o592) :: (nat_lit 593, o593) :: (nat_lit 595, o595) :: (nat_lit 596, o596) :: (nat_lit 597, o597) :: (nat_lit 599, o599) :: (nat_lit 600, o600) :: (nat_lit 602, o602) :: (nat_lit 603, o603) :: (nat_lit 604, o604) :: (nat_lit 606, o606) :: (nat_lit 607, o607) :: (nat_lit 609, o609) :: (nat_lit 610, o610) :: (nat_lit 611, o611) :: (nat_lit 613, o613) :: (nat_lit 614, o614) :: (nat_lit 616, o616) :: (nat_lit 617, o617) :: (nat_lit 618, o618) :: (nat_lit 621, o621) :: (nat_lit 622, o622) :: (nat_lit 623, o623) :: (nat_lit 626, o626) :: (nat_lit 627, o627) :: (nat_lit 628, o628) :: (nat_lit 630, o630) :: (nat_lit 631, o631) :: (nat_lit 633, o633) :: (nat_lit 634, o634) :: (nat_lit 635, o635) :: (nat_lit 637, o637) :: (nat_lit 638, o638) :: (nat_lit 640, o640) :: (nat_lit 641, o641) :: (nat_lit 642, o642) :: (nat_lit 644, o644) :: (nat_lit 645, o645) :: (nat_lit 647, o647) :: (nat_lit 648, o648) :: (nat_lit 649, o649) :: (nat_lit 651, o651) :: (nat_lit 652, o652) :: (nat_lit 654, o654) :: (nat_lit 655, o655) :: (nat_lit 656, o656) :: (nat_lit 658, o658) :: (nat_lit 659, o659) :: (nat_lit 661, o661) :: (nat_lit 662, o662) :: (nat_lit 663, o663) :: (nat_lit 665, o665) :: (nat_lit 666, o666) :: (nat_lit 668, o668) :: (nat_lit 669, o669) :: (nat_lit 670, o670) :: (nat_lit 672, o672) :: (nat_lit 673, o673) :: (nat_lit 675, o675) :: (nat_lit 676, o676) :: (nat_lit 677, o677) :: (nat_lit 680, o680) :: (nat_lit 681, o681) :: (nat_lit 682, o682) :: (nat_lit 685, o685) :: (nat_lit 686, o686) :: (nat_lit 687, o687) :: (nat_lit 689, o689) :: (nat_lit 690, o690) :: (nat_lit 692, o692) :: (nat_lit 693, o693) :: (nat_lit 694, o694) :: (nat_lit 697, o697) :: (nat_lit 698, o698) :: (nat_lit 699, o699) :: (nat_lit 702, o702) :: (nat_lit 703, o703) :: []
noncomputable abbrev as39 : List Addr := [2, 3, 15, 17, 18, 20, 21, 22, 29, 31, 32, 34, 35, 36, 37, 38, 39, 49, 51, 52, 54, 55, 56, 57, 58, 59, 60, 63, 64, 73, 75, 76, 78, 79, 80, 81, 82, 83, 84, 94, 95, 97, 98, 100, 101, 102, 103, 104, 105, 106, 116, 118, 119, 121, 122, 123, 124, 125, 126, 127, 137, 139, 140, 142, 143, 144, 145, 146, 147, 148, 158, 160, 161, 163, 164, 165, 167, 168, 170, 171, 172, 174, 175, 177, 178, 179, 180, 181, 182, 183, 186, 187, 189, 190, 192, 193, 194, 196, 197, 199, 200, 201, 203, 204, 206, 207, 208, 210, 211, 213, 214, 215, 217, 218, 220, 221, 222, 224, 225, 227, 228, 229, 231, 232, 234, 235, 236, 238, 239, 241, 242, 243, 245, 246, 248, 249, 250, 252, 253, 255, 256, 257, 259, 260, 262, 263, 264, 266, 267, 269, 270, 271, 273, 274, 276, 277, 278, 280, 281, 283, 284, 285, 287, 288, 290, 291, 292, 295, 296, 297, 299, 300, 302, 303, 311, 313, 314, 316, 317, 318, 320, 321, 323, 324, 325, 327, 328, 330, 331, 332, 333, 334, 335, 336, 339, 342, 343, 344, 346, 347, 349, 350, 351, 353, 354, 356, 357, 358, 360, 361, 363, 364, 365, 367, 368, 370, 371, 372, 374, 375, 377, 378, 379, 381, 382, 384, 385, 386, 388, 389, 391, 392, 393, 395, 396, 398, 399, 400, 402, 403, 405, 406, 407, 409, 410, 412, 413, 414, 416, 417, 419, 420, 421, 423, 424, 426, 427, 428, 430, 431, 433, 434, 435, 437, 438, 440, 441, 442, 444, 445, 447, 448, 449, 451, 452, 454, 455, 456, 458, 459, 461, 462, 463, 465, 466, 468, 469, 470, 473, 474, 475, 477, 478, 480, 481, 482, 484, 485, 487, 488, 489, 491, 492, 494, 495, 496, 498, 499, 501, 502, 503, 505, 506, 508, 509, 510, 513, 514, 515, 517, 518, 520, 521, 522, 524, 525, 527, 528, 529, 531, 532, 534, 535, 536, 538, 539, 541, 542, 543, 546, 547, 548, 550, 551, 553, 554, 555, 557, 558, 560, 561, 562, 564, 565, 567, 568, 569, 571, 572, 574, 575, 576, 578, 579, 581, 582, 583, 585, 586, 588, 589, 590, 592, 593, 595, 596, 597, 599, 600, 602, 603, 604, 606, 607, 609, 610, 611, 613, 614, 616, 617, 618, 621, 622, 623, 626, 627, 628, 630, 631, 633, 634, 635, 637, 638, 640, 641, 642, 644, 645, 647, 648, 649, 651, 652, 654, 655, 656, 658, 659, 661, 662, 663, 665, 666, 668, 669, 670, 672, 673, 675, 676, 677, 680, 681, 682, 685, 686, 687, 689, 690, 692, 693, 694, 697, 698, 699, 702, 703]
theorem as_eq : ∀ P : Params, as39 = (heap_39 P).map (·.1) := fun P => by kernel_rfl
noncomputable def env : Env := { scope := PG.main.scope, locals := mainNs, globals := mainNs, cells := [], code := .ref 13, frame := some 14 }
noncomputable abbrev cB : Code := .body bd env
noncomputable abbrev p0 : Pos := ⟨0, 0, 0, 0⟩
noncomputable abbrev an : Option Value := some (.ref 6)
noncomputable abbrev ST (t : BT) (n k : Nat) (os : OsState) : SharedT := ⟨t, n, {}, #[], {}, k, os⟩
theorem pre_run (w : World) (os : OsState) : topGo treeTable PG w 11 an 12 ⟨boot_heap w.params, #[], boot_drawn, boot_toks, os⟩ (topStub PG) = some (⟨heap0 w.params, #[], {}, 187, os⟩, ⟨denote treeTable cB, cB, p0, [topFrame p0]⟩) := by kernel_rfl
theorem block_run (w : World) (os : OsState) : segRun treeTable PG w 11 an 1 1 ⟨heap0 w.params, #[], {}, 187, os⟩ (blockOf bd env cB p0 [topFrame p0]) = some (.next, (ST (tree1 w.params) 15 187 os).abs, cB, p0) := by kernel_rfl
theorem seg7 (w : World) (os : OsState) : segRunT treeTable PG w 11 an 1 667 (ST (tree1 w.params) 15 187 os) (piecesOf ((bd.drop 0).take 6) env cB ⟨0, 0, 0, 0⟩ [topFrame p0]) = some (.next, ST (tree7 w.params) 66 273 os, cB, ⟨17, 0, 17, 3⟩) := by kernel_rfl
theorem seg10 (w : World) (os : OsState) : segRunT treeTable PG w 11 an 1 672 (ST (tree7 w.params) 66 273 os) (piecesOf ((bd.drop 6).take 3) env cB ⟨17, 0, 17, 3⟩ [topFrame p0]) = some (.next, ST (tree10 w.params) 130 364 os, cB, ⟨28, 0, 31, 28⟩) := by kernel_rfl
theorem seg19 (w : World) (os : OsState) : segRunT treeTable PG w 11 an 1 686 (ST (tree10 w.params) 130 364 os) (piecesOf ((bd.drop 9).take 9) env cB ⟨28, 0, 31, 28⟩ [topFrame p0]) = some (.next, ST (tree19 w.params) 222 484 os, cB, ⟨71, 0, 71, 7⟩) := by kernel_rfl
theorem seg35 (w : World) (os : OsState) : segRunT treeTable PG w 11 an 1 679 (ST (tree19 w.params) 222 484 os) (piecesOf ((bd.drop 18).take 16) env cB ⟨71, 0, 71, 7⟩ [topFrame p0]) = some (.next, ST (tree35 w.params) 339 634 os, cB, ⟨123, 0, 142, 33⟩) := by kernel_rfl
theorem seg58 (w : World) (os : OsState) : segRunT treeTable PG w 11 an 1 694 (ST (tree35 w.params) 339 634 os) (piecesOf ((bd.drop 34).take 23) env cB ⟨123, 0, 142, 33⟩ [topFrame p0]) = some (.next, ST (tree58 w.params) 489 840 os, cB, ⟨278, 0, 279, 49⟩) := by kernel_rfl
theorem seg83 (w : World) (os : OsState) : segRunT treeTable PG w 11 an 1 680 (ST (tree58 w.params) 489 840 os) (piecesOf ((bd.drop 57).take 25) env cB ⟨278, 0, 279, 49⟩ [topFrame p0]) = some (.next, ST (tree83 w.params) 635 1022 os, cB, ⟨383, 0, 387, 81⟩) := by kernel_rfl
theorem seg94 (w : World) (os : OsState) : segRunT treeTable PG w 11 an 1 344 (ST (tree83 w.params) 635 1022 os) (piecesOf ((bd.drop 82).take 11) env cB ⟨383, 0, 387, 81⟩ [topFrame p0]) = some (.next, ST (tree94 w.params) 704 1131 os, cB, ⟨473, 0, 482, 27⟩) := by kernel_rfl
theorem fin_run (w : World) (os : OsState) : topRun treeTable PG w 11 an 2 (ST (tree94 w.params) 704 1131 os).abs ⟨doneF .next, cB, ⟨473, 0, 482, 27⟩, [topFrame p0]⟩ = some ⟨heapZ w.params, #[], {}, 1131, os⟩ := by kernel_rfl
theorem piece_at {tb : String → Option Builtin} {p : Program} {w : World} {n₀ : Nat} {ann : Option Value} {q : Pos} {e : Env} {n N a m : Nat} {s s' : SharedT} {r : Shared} {b : List Stmt} {c : Code} {pos p' : Pos}
    (h : segRunT tb p w n₀ ann 1 n s (piecesOf ((b.drop a).take m) e c pos [topFrame q]) = some (.next, s', c, p'))
    (k : topRun tb p w n₀ ann N s'.abs (restOf (b.drop (a + m)) e c p' [topFrame q]) = some r) : topRun tb p w n₀ ann (n + N) s.abs (restOf (b.drop a) e c pos [topFrame q]) = some r := by
  have e1 : b.drop a = (b.drop a).take m ++ b.drop (a + m) := by rw [← List.drop_drop, List.take_append_drop]
  rw [e1]
  exact piece_app (segRun_of h) k
theorem bd_end : bd.drop 93 = [] := by kernel_rfl
theorem end_at {tb : String → Option Builtin} {p : Program} {w : World} {n₀ : Nat} {ann : Option Value} {q : Pos} {e : Env} {N : Nat} {s r : Shared} {l : List Stmt} {c : Code} {pos : Pos} (hl : l = [])
    (k : topRun tb p w n₀ ann N s ⟨doneF .next, c, pos, [topFrame q]⟩ = some r) : topRun tb p w n₀ ann N s (restOf l e c pos [topFrame q]) = some r := by subst hl; exact piece_nil k
theorem run_all (w : World) (os : OsState) : topRun treeTable PG w 11 an (12 + (1 + (667 + (672 + (686 + (679 + (694 + (680 + (344 + (2)))))))))) ⟨boot_heap w.params, #[], boot_drawn, boot_toks, os⟩ (topStub PG) = some ⟨heapZ w.params, #[], {}, 1131, os⟩ :=
  go_top (pre_run w os) (piece_block (block_run w os) (piece_at (a := 0) (m := 6) (seg7 w os) (piece_at (a := 6) (m := 3) (seg10 w os) (piece_at (a := 9) (m := 9) (seg19 w os) (piece_at (a := 18) (m := 16) (seg35 w os) (piece_at (a := 34) (m := 23) (seg58 w os) (piece_at (a := 57) (m := 25) (seg83 w os) (piece_at (a := 82) (m := 11) (seg94 w os) (end_at bd_end (fin_run w os))))))))))
noncomputable abbrev loose : List Str := [Str.ofString "_wall", Str.ofString "LispSignal", Str.ofString "Symbol", Str.ofString "NIL", Str.ofString "Cons", Str.ofString "Text", Str.ofString "Vector", Str.ofString "ByteCode", Str.ofString "Opaque", Str.ofString "list_of", Str.ofString "split_list", Str.ofString "items_of", Str.ofString "is_whole", Str.ofString "is_list", Str.ofString "LONGEST", Str.ofString "wrong", Str.ofString "need_list", Str.ofString "need_whole", Str.ofString "need_bounded", Str.ofString "things_of", Str.ofString "car_of", Str.ofString "cdr_of", Str.ofString "lisp_proper_list_p", Str.ofString "MOST_STEPS", Str.ofString "MOST_DEEP", Str.ofString "eq", Str.ofString "eql", Str.ofString "parts_of", Str.ofString "are_of_one_class", Str.ofString "Task", Str.ofString "equal_by", Str.ofString "are_any", Str.ofString "equal", Str.ofString "ring_of", Str.ofString "rest_at", Str.ofString "lisp_nthcdr", Str.ofString "lisp_nth", Str.ofString "lisp_take", Str.ofString "lisp_last", Str.ofString "lisp_butlast", Str.ofString "last_pair", Str.ofString "lisp_nconc", Str.ofString "lisp_memq", Str.ofString "lisp_memql", Str.ofString "lisp_member", Str.ofString "rest_from", Str.ofString "rest_where", Str.ofString "left_out", Str.ofString "lisp_delq", Str.ofString "lisp_remq", Str.ofString "pair_with", Str.ofString "lisp_assq", Str.ofString "lisp_assoc", Str.ofString "lisp_rassq", Str.ofString "lisp_rassoc", Str.ofString "lisp_copy_alist", Str.ofString "LAST_CODE", Str.ofString "is_code", Str.ofString "need_code", Str.ofString "is_array", Str.ofString "things_in", Str.ofString "alike", Str.ofString "need_place", Str.ofString "lisp_length", Str.ofString "lisp_safe_length", Str.ofString "lisp_elt", Str.ofString "lisp_aref", Str.ofString "lisp_append", Str.ofString "lisp_vconcat", Str.ofString "lisp_copy_sequence", Str.ofString "lisp_reverse", Str.ofString "lisp_nreverse", Str.ofString "lisp_delete", Str.ofString "lisp_remove", Str.ofString "_law_draw", Str.ofString "_law_ring", Str.ofString "_law_spot", Str.ofString "_law_stays", Str.ofString "_law_told", Str.ofString "_law_is_the", Str.ofString "_law_by_place", Str.ofString "_law_by_take", Str.ofString "_law_by_look", Str.ofString "_law_by_end", Str.ofString "_law_by_rest"]
noncomputable def view_39 : Program := { PG with main := { PG.main with body := [st 92] } }
noncomputable abbrev H : Hook := kmHook heap_39 as39 as_eq [476, 443]
noncomputable abbrev Xt : Shared → Bool := fun s => xlAt view_39 [] s && recOk (RowW.records PySem.Challenge.rw_sq0008_01.row.toRowW) s
theorem open_ok : opening PG = plainProg PG.main.scope.names := by kernel_rfl
theorem fence_ok : ∀ s : Shared, fenceModules? PG s = some s := fun s => by kernel_rfl
theorem size_ok : ∀ w : World, ((boot_heap w.params).isNs mainGlobals && (#[] : Array GenState).size == 0, (boot_heap w.params).objs.size, (boot_heap w.params).nsMap mainGlobals "__annotations__") = (true, 11, an) := fun w => by kernel_rfl
noncomputable abbrev SZ (w : World) (os : OsState) : Shared := ⟨heapZ w.params, #[], {}, 1131, os⟩
theorem look_a (w : World) (os : OsState) : (staticsOk (importedModules PG.main.body) (boot_heap w.params) (heapZ w.params) && namesBound PG (heapZ w.params) && gensDone (SZ w os) && laidKept (boot_heap w.params) (heapZ w.params)) = true := by kernel_rfl
theorem look_b (w : World) (os : OsState) : openSeen view_39 loose (importedModules PG.main.body) Xt true (SZ w os) = openGood view_39 loose := by kernel_rfl
theorem look_c (w : World) (os : OsState) : H.obs (SZ w os) = H.val w := by kernel_rfl
theorem left_ok : LeftO PG view_39 loose Xt H.obs H.val 9000 :=
  LeftO.of_pieces (boot_open open_ok (by decide) fence_ok) size_ok run_all (by decide) fun w => funext fun os => by
    show ((_ && _ && _ && _ : Bool), _, _) = _
    rw [look_a w os, look_b w os, look_c w os]
end Mine.hd
theorem Mine.look_ok : PySem.Challenge.rw_sq0008_01.wellSaid = true := by
  unfold OpenLaw.wellSaid OpenRow.wellSaid OpenRow.partSaid
  repeat (refine Bool.and_eq_true_iff.mpr ⟨?_, ?_⟩)
  all_goals decide +kernel

namespace Mine

abbrev PR : Program := PySem.Challenge.rw_sq0008_01.row.prog
noncomputable abbrev KK (w : World) : Frag := hd.heap_39 w.params
abbrev View := Addr → Option Obj
abbrev Led := List (Addr × (Obj → Prop))
abbrev Loc := List (Str × Option Value)
abbrev addrs (n : Led) : List Addr := n.map (·.1)

structure G0 (w : World) (h₀ : Heap) : Prop where
  K : (KK w).In h₀
  top : ∃ p loose mean mg mb, Top p loose mean mg mb h₀
  c1 : CodeHd h₀ 480 476
  c2 : CodeHd h₀ 447 443

theorem G0.elim {w : World} {h₀ : Heap} {G : Prop} (h : G0 w h₀) (k : ∀ p loose mean mg mb, Top p loose mean mg mb h₀ → G) : G := let ⟨p, loose, mean, mg, mb, T⟩ := h.top; k p loose mean mg mb T
def Is : Value → Value → Prop
  | .int i _, v => ∃ t, v = .int i t
  | .str x _, v => ∃ t, v = .str x t
  | u, v => v = u
theorem Is.rfl' : ∀ v : Value, Is v v := by
  intro v; cases v <;> first | exact rfl | exact ⟨_, rfl⟩
theorem Is.ref {a : Addr} {v : Value} (h : Is (.ref a) v) : v = .ref a := h
theorem Is.int {k : Int} {t : Tok} {v : Value} (h : Is (.int k t) v) : ∃ t, v = .int k t := h
theorem Is.str {k : Str} {t : Tok} {v : Value} (h : Is (.str k t) v) : ∃ t, v = .str k t := h
theorem Is.bool {b : Bool} {v : Value} (h : Is (.bool b) v) : v = .bool b := h
theorem Is.none {v : Value} (h : Is .none v) : v = .none := h

inductive AllIs : List Value → List Value → Prop
  | nil : AllIs [] []
  | cons {u v : Value} {us vs : List Value} : Is u v → AllIs us vs → AllIs (u :: us) (v :: vs)
theorem AllIs.length {us vs : List Value} (h : AllIs us vs) : us.length = vs.length := by
  induction h with
  | nil => rfl
  | cons _ _ ih => simp [ih]
theorem AllIs.get {us vs : List Value} (h : AllIs us vs) : ∀ {i : Nat} {u : Value}, us[i]? = some u → ∃ v, vs[i]? = some v ∧ Is u v := by
  induction h with
  | nil => intro i u e; simp at e
  | cons h0 _ ih =>
    intro i u e
    cases i with
    | zero => simp at e; subst e; exact ⟨_, by simp, h0⟩
    | succ i => simp at e; simpa using ih e
theorem AllIs.rfl' : ∀ vs : List Value, AllIs vs vs
  | [] => .nil
  | v :: vs => .cons (Is.rfl' v) (AllIs.rfl' vs)
theorem AllIs.append {us vs us' vs' : List Value} (h : AllIs us vs) (h' : AllIs us' vs') : AllIs (us ++ us') (vs ++ vs') := by
  induction h with
  | nil => exact h'
  | cons h0 _ ih => exact .cons h0 ih

abbrev tupO (its : Array Value) (k : Nat) : Obj := { cls := .type "tuple", data := .seq its k }
def LstO (us : List Value) (o : Obj) : Prop := ∃ its k, o = listOf its k ∧ AllIs us its.toList
def TupO (us : List Value) (o : Obj) : Prop := ∃ its k, o = tupO its k ∧ AllIs us its.toList
def CelO (x y : Value) (o : Obj) : Prop := ∃ h1 t1 v1 h2 t2 v2 k, o = dictOf [⟨h1, .str "car" t1, v1⟩, ⟨h2, .str "cdr" t2, v2⟩] k ∧ Is x v1 ∧ Is y v2
def Lst (g : View) (l : Addr) (us : List Value) : Prop := ∃ o, g l = some o ∧ LstO us o
def Tup (g : View) (l : Addr) (us : List Value) : Prop := ∃ o, g l = some o ∧ TupO us o
abbrev CONS : Addr := 82
abbrev NIL : Addr := 64
def Cell (g : View) (a : Addr) (x y : Value) : Prop := ∃ d o, g a = some (instObj CONS d) ∧ g d = some o ∧ CelO x y o

def Le (g g' : View) : Prop := ∀ a o, g a = some o → g' a = some o
theorem Le.rfl' (g : View) : Le g g := fun _ _ e => e
theorem Le.trans {g g' g'' : View} (h : Le g g') (h' : Le g' g'') : Le g g'' := fun a o e => h' a o (h a o e)
theorem Lst.le {g g' : View} {l us} (h : Lst g l us) (k : Le g g') : Lst g' l us := let ⟨o, a, b⟩ := h; ⟨o, k _ _ a, b⟩
theorem Tup.le {g g' : View} {l us} (h : Tup g l us) (k : Le g g') : Tup g' l us := let ⟨o, a, b⟩ := h; ⟨o, k _ _ a, b⟩
theorem Cell.le {g g' : View} {a x y} (h : Cell g a x y) (k : Le g g') : Cell g' a x y := let ⟨d, o, a, b, c⟩ := h; ⟨d, o, k _ _ a, k _ _ b, c⟩

structure Sits (g : View) (n : Led) (h : Heap) : Prop where
  vw : ∀ a o, g a = some o → h.get? a = some o
  ld : ∀ p ∈ n, ∃ o, h.get? p.1 = some o ∧ p.2 o
  off : ∀ a ∈ addrs n, g a = none
  nd : (addrs n).Nodup

def Keep (fs ns : List Addr) (h h' : Heap) : Prop :=
  (∀ b o, h.get? b = some o → ∃ o', h'.get? b = some o') ∧ ∀ b o, h.get? b = some o → b ∉ ns → (b ∉ fs → h'.get? b = some o) ∧ ∃ sl, h'.get? b = some { o with slots := sl }
theorem Keep.rfl' (fs ns : List Addr) (h : Heap) : Keep fs ns h h := ⟨fun _ o e => ⟨o, e⟩, fun b o e _ => ⟨fun _ => e, o.slots, e⟩⟩
theorem Keep.trans {fs ns : List Addr} {h h' h'' : Heap} (x : Keep fs ns h h') (y : Keep fs ns h' h'') : Keep fs ns h h'' := by
  refine ⟨fun b o e => let ⟨o', e'⟩ := x.1 b o e; y.1 b o' e', fun b o e hb => ⟨fun hf => (y.2 b o ((x.2 b o e hb).1 hf) hb).1 hf, ?_⟩⟩
  obtain ⟨sl, e1⟩ := (x.2 b o e hb).2
  obtain ⟨sl', e2⟩ := (y.2 b _ e1 hb).2
  exact ⟨sl', e2⟩
theorem Keep.old {fs ns : List Addr} {h h' : Heap} {a : Addr} (k : Keep fs ns h h') (e : h'.get? a = none) : h.get? a = none := by
  cases q : h.get? a with
  | none => rfl
  | some o => obtain ⟨o', e'⟩ := k.1 a o q; rw [e] at e'; cases e'
theorem Keep.of_all {fs ns : List Addr} {h h' : Heap} (k : ∀ b o, h.get? b = some o → h'.get? b = some o) : Keep fs ns h h' :=
  ⟨fun b o e => ⟨o, k b o e⟩, fun b o e _ => ⟨fun _ => k b o e, o.slots, k b o e⟩⟩

abbrev emptyH : Heap := {}
theorem ne_of_in {l : List Addr} {a b : Addr} (h : a ∈ l) (h' : b ∉ l) : a ≠ b := fun q => h' (q ▸ h)
theorem emptyH_get (a : Addr) : emptyH.get? a = none := by
  cases e : emptyH.get? a with
  | none => rfl
  | some o => exact absurd (Heap.lt_size e) (by simp)

def fsOf (l : List Env) : List Addr := l.filterMap (·.frame)

def Room (A : Around) (k : Nat) : Prop := A.depth + k ≤ 700 ∧ A.units + 20 * k ≤ 5000

structure Cx where
  w : World
  h₀ : Heap
  nm : Str
  sc : Scope
  L : Addr
  fn : Option Addr
  fa : Addr
  comp : Bool
  cd : Value
  cl : List (Str × Addr)
  A : Around
  outer : List Env
  k : Nat
  g0 : View
  n0 : List Addr
  h0 : Heap
  pin : List (Addr × (Str → Option Value))
abbrev Cx.env (c : Cx) : Env := { scope := c.sc, locals := c.L, globals := mainGlobals, cells := c.cl, qual := c.nm ++ ".<locals>.", func := c.fn, code := c.cd, frame := some c.fa, builtins := builtinsNs }
def Cx.stk (c : Cx) : List Env := if c.comp then c.outer else c.env :: c.outer
theorem Cx.stk_def {c : Cx} (h : c.comp = false) : c.stk = c.env :: c.outer := by unfold Cx.stk; rw [h]; rfl
theorem Cx.stk_comp {c : Cx} (h : c.comp = true) : c.stk = c.outer := by unfold Cx.stk; rw [h]; rfl
abbrev Cx.fs (c : Cx) : List Addr := fsOf c.outer

structure St (c : Cx) (m : Loc) (g : View) (n : Led) (h : Heap) : Prop where
  G : G0 c.w c.h₀
  base : ∀ a o, c.h₀.get? a = some o → g a = some o
  hA : c.A.frames = some c.stk
  hdef : c.comp = false → c.fa = c.L
  hh : c.A.handled = none
  hk : c.sc.kind = .function
  room : Room c.A c.k
  g0 : Le c.g0 g
  sits : Sits g n h
  loc : ∃ m', h.Ns c.L m' ∧ ∀ x v, (x, some v) ∈ m → ∃ v', m' x = some v' ∧ Is v v'
  mnd : (m.map (·.1)).Nodup
  mloc : ∀ x ∈ m.map (·.1), c.sc.names.lookup x = some .local ∧ (x == ("__debug__" : Str)) = false
  Lg : g c.L = none
  Ln : c.L ∉ addrs n
  fr : h.FunFrames emptyH c.outer
  fg : ∀ a ∈ c.fs, g a = none
  fn : ∀ a ∈ c.fs, a ∉ addrs n
  keep : Keep c.fs c.n0 c.h0 h
  new : ∀ a o, g a = some o → c.g0 a = some o ∨ c.h0.get? a = none
  nnew : ∀ a ∈ addrs n, a ∈ c.n0 ∨ c.h0.get? a = none
  Lnew : c.h0.get? c.L = none
  pins : ∀ p ∈ c.pin, h.Ns p.1 p.2 ∧ p.1 ∈ c.fs ∧ p.1 ≠ c.L

abbrev SIG : Addr := 38
def SigD (o : Obj) : Prop := ∃ es ep t, o.data = .dict es ep ∧ nsFind es "symbol" = some (.str "circular-list" t)
inductive SigAt (fs : List Addr) (lo : Heap) (g : View) (n : Led) (x : Addr) (tb : Option Value) (h : Heap) : Prop
  | mk (x1 : g x = none) (x2 : x ∉ fs) (x3 : x ∉ addrs n) (x4 : lo.get? x = none) (oe : Obj) (vs : Array Value) (d : Addr) (od : Obj) (y1 : h.get? x = some oe) (y2 : oe.cls = .ref SIG) (y3 : oe.dict = some d) (y4 : oe.data = .fields vs) (y5 : g d = some od) (y6 : SigD od)
    (y7 : match tb with
    | none => vs[1]? = some .none
    | some fl => ∃ T oT ts, vs[1]? = some (.ref T) ∧ g T = none ∧ T ∉ fs ∧ T ∉ addrs n ∧ lo.get? T = none ∧ T ≠ x ∧ h.get? T = some oT ∧ oT.data = .fields ts ∧ ts[3]? = some fl) : SigAt fs lo g n x tb h
def Sig (c : Cx) (g : View) (n : Led) (x : Addr) (h : Heap) : Prop := ∃ tb, (tb = none ∨ tb = some .none ∨ tb = some (rawInt c.fa)) ∧ SigAt (c.L :: c.fs) c.h0 g n x tb h

theorem SigAt.elim {fs : List Addr} {lo : Heap} {g : View} {n : Led} {x : Addr} {tb : Option Value} {h : Heap} {G : Prop} (X : SigAt fs lo g n x tb h)
    (k : g x = none → x ∉ fs → x ∉ addrs n → lo.get? x = none → ∀ oe vs d od, h.get? x = some oe → oe.cls = .ref SIG → oe.dict = some d → oe.data = .fields vs → g d = some od → SigD od → G) : G := by
  obtain ⟨x1, x2, x3, x4, oe, vs, d, od, y1, y2, y3, y4, y5, y6, y7⟩ := X
  exact k x1 x2 x3 x4 oe vs d od y1 y2 y3 y4 y5 y6
theorem SigAt.mv {fs fs' : List Addr} {lo lo' : Heap} {g : View} {n n' : Led} {x : Addr} {tb : Option Value} {h : Heap} (X : SigAt fs lo g n x tb h)
    (k : ∀ a, lo.get? a = none → a ∉ fs → a ∉ addrs n → a ∉ fs' ∧ a ∉ addrs n' ∧ lo'.get? a = none) : SigAt fs' lo' g n' x tb h := by
  obtain ⟨x1, x2, x3, x4, oe, vs, d, od, y1, y2, y3, y4, y5, y6, y7⟩ := X
  obtain ⟨p1, p2, p3⟩ := k x x4 x2 x3
  refine ⟨x1, p1, p2, p3, oe, vs, d, od, y1, y2, y3, y4, y5, y6, ?_⟩
  cases tb with
  | none => exact y7
  | some fl =>
    obtain ⟨T, oT, ts, z1, z2, z3, z4, z5, z6⟩ := y7
    obtain ⟨q1, q2, q3⟩ := k T z5 z3 z4
    exact ⟨T, oT, ts, z1, z2, q1, q2, q3, z6⟩
abbrev Post := Value → View → Led → Prop
abbrev XPost := View → Led → Prop
abbrev FPost := Flow → Loc → View → Led → Prop
abbrev BPost := Bool → View → Led → Prop

def DO {α : Type} (c : Cx) (m : Loc) (g : View) (n : Led) (t : Sem α) (Φ : α → View → Led → Prop) (Ψ : XPost) : Prop :=
  ∀ (s : Shared) (Q : α → Shared → Prop) (E : Value → Shared → Prop), St c m g n s.heap →
    (∀ a g' n' h' tk, Φ a g' n' → Le g g' → St c m g' n' h' → Q a { s with heap := h', toks := tk }) →
    (∀ x g' n' h' tk, Ψ g' n' → Le g g' → St c m g' n' h' → Sig c g' n' x h' → E (.ref x) { s with heap := h', toks := tk }) →
    wpAny (model PR c.w) c.A t Q E s
def Vp (Φ : Post) : Value → View → Led → Prop := fun v' g' n' => ∃ v, Is v v' ∧ Φ v g' n'
def EX (c : Cx) (m : Loc) (g : View) (n : Led) (e : Expr) (Φ : Post) (Ψ : XPost) : Prop := DO c m g n (eval e c.env) (Vp Φ) Ψ
def TX (c : Cx) (m : Loc) (g : View) (n : Led) (e : Expr) (Φ : BPost) (Ψ : XPost) : Prop := DO c m g n (isTrue e c.env (eval e c.env)) Φ Ψ
inductive IsF : Flow → Flow → Prop
  | next : IsF .next .next
  | cont : IsF .cont .cont
  | brk : IsF .brk .brk
  | ret {v v' : Value} : Is v v' → IsF (.ret v) (.ret v')
def SX (c : Cx) (m : Loc) (g : View) (n : Led) (st : List Stmt) (Φ : FPost) (Ψ : XPost) : Prop :=
  ∀ (s : Shared) (Q : Flow → Shared → Prop) (E : Value → Shared → Prop), St c m g n s.heap →
    (∀ f f' m' g' n' h' tk, Φ f m' g' n' → IsF f f' → Le g g' → St c m' g' n' h' → Q f' { s with heap := h', toks := tk }) →
    (∀ x m' g' n' h' tk, Ψ g' n' → Le g g' → St c m' g' n' h' → Sig c g' n' x h' → E (.ref x) { s with heap := h', toks := tk }) →
    wpAny (model PR c.w) c.A (execs st c.env) Q E s
def S1 (c : Cx) (m : Loc) (g : View) (n : Led) (st : Stmt) (Φ : FPost) (Ψ : XPost) : Prop :=
  ∀ (s : Shared) (Q : Flow → Shared → Prop) (E : Value → Shared → Prop), St c m g n s.heap →
    (∀ f f' m' g' n' h' tk, Φ f m' g' n' → IsF f f' → Le g g' → St c m' g' n' h' → Q f' { s with heap := h', toks := tk }) →
    (∀ x m' g' n' h' tk, Ψ g' n' → Le g g' → St c m' g' n' h' → Sig c g' n' x h' → E (.ref x) { s with heap := h', toks := tk }) →
    wpAny (model PR c.w) c.A (exec st c.env) Q E s

structure Ends (outer : List Env) (g : View) (n : Led) (h : Heap) (g' : View) (n' : Led) (h' : Heap) : Prop where
  le : Le g g'
  sits : Sits g' n' h'
  keep : Keep (fsOf outer) (addrs n) h h'
  new : ∀ a o, g' a = some o → g a = some o ∨ h.get? a = none
  nnew : ∀ a ∈ addrs n', a ∈ addrs n ∨ h.get? a = none

def FN (w : World) (h₀ : Heap) (f : Value) (args : List Value) (g : View) (n : Led) (k : Nat) (Φ : Post) (Ψ : XPost) : Prop :=
  ∀ (A : Around) (outer : List Env) (s : Shared) (R : Result → Shared → Prop) (vs : List Value),
    G0 w h₀ → (∀ a o, h₀.get? a = some o → g a = some o) → A.handled = none → A.frames = some outer → Room A k → Sits g n s.heap → s.heap.FunFrames emptyH outer →
    (∀ a ∈ fsOf outer, g a = none ∧ a ∉ addrs n) → AllIs args vs →
    (∀ v v' g' n' h' tk, Φ v g' n' → Is v v' → Ends outer g n s.heap g' n' h' → R (.ok (.ret v')) { s with heap := h', toks := tk }) →
    (∀ x g' n' h' tk, Ψ g' n' → Ends outer g n s.heap g' n' h' → SigAt (fsOf outer) s.heap g' n' x (some .none) h' → R (.error (.ref x)) { s with heap := h', toks := tk }) →
    codeAny (model PR w) A (.call f ⟨vs, []⟩) R s

theorem St.K {c m g n h} (S : St c m g n h) : (KK c.w).In h := fun a o e => S.sits.vw a o (S.base a o (S.G.K a o e))
theorem St.stays {c m g n h} (S : St c m g n h) : ∀ b o, c.h₀.get? b = some o → h.get? b = some o := fun b o e => S.sits.vw b o (S.base b o e)

theorem FunFrames.grow {h h' : Heap} {l : List Env} (k : ∀ b o, h.get? b = some o → h'.get? b = some o) (x : h.FunFrames emptyH l) : h'.FunFrames emptyH l := x.of_keeps fun b o e _ => ⟨o, k b o e, rfl⟩

theorem St.grow {c m g n h h'} (S : St c m g n h) (k : ∀ b o, h.get? b = some o → h'.get? b = some o) : St c m g n h' :=
  { S with
    sits := ⟨fun a o e => k a o (S.sits.vw a o e), fun p hp => let ⟨o, e, q⟩ := S.sits.ld p hp; ⟨o, k _ _ e, q⟩, S.sits.off, S.sits.nd⟩
    loc := let ⟨m', a, b⟩ := S.loc; ⟨m', a.keeps k, b⟩
    fr := FunFrames.grow k S.fr
    keep := S.keep.trans (Keep.of_all k)
    pins := fun p hp => let ⟨a, b⟩ := S.pins p hp; ⟨a.keeps k, b⟩ }
theorem St.push {c m g n h} (S : St c m g n h) (o : Obj) : St c m g n (h.push o) := S.grow (fun _ _ e => Heap.get?_push_of_some _ e)

theorem Heap.get?_fresh (h : Heap) : h.get? h.objs.size = none := by
  cases e : h.get? h.objs.size with
  | none => rfl
  | some o => exact absurd (Heap.lt_size e) (Nat.lt_irrefl _)
theorem St.ne_L {c m g n h a} (S : St c m g n h) (e : h.get? a = none) : a ≠ c.L := by
  rintro rfl
  obtain ⟨m', ⟨o, _, _, q, _⟩, _⟩ := S.loc
  rw [e] at q; cases q
theorem St.notin_fs {c m g n h a} (S : St c m g n h) (e : h.get? a = none) : a ∉ c.fs := fun hm => by
  obtain ⟨_, o, q, _⟩ := S.fr.mem hm
  rw [e] at q; cases q
theorem St.notin_n {c m g n h a} (S : St c m g n h) (e : h.get? a = none) : a ∉ addrs n := fun hm => by
  obtain ⟨p, hp, rfl⟩ := List.mem_map.mp hm
  obtain ⟨o, q, _⟩ := S.sits.ld p hp
  rw [e] at q; cases q
theorem St.notin_g {c m g n h a} (S : St c m g n h) (e : h.get? a = none) : g a = none := by
  cases q : g a with
  | none => rfl
  | some o => rw [S.sits.vw a o q] at e; cases e
def gset (g : View) (a : Addr) (o : Obj) : View := fun b => if b = a then some o else g b
theorem gset_self {g a o} : gset g a o a = some o := if_pos rfl
theorem gset_ne {g a o b} (h : b ≠ a) : gset g a o b = g b := if_neg h
theorem Le.gset {g a o} (h : g a = none) : Le g (gset g a o) := fun b o' e => by
  rw [gset_ne (fun q => by rw [q, h] at e; cases e)]; exact e

theorem St.own {c m g n h h'} {a : Addr} {o : Obj} {P : Obj → Prop} (S : St c m g n h) (k : ∀ b o, h.get? b = some o → h'.get? b = some o)
    (hn : h.get? a = none) (ho : h'.get? a = some o) (hP : P o) : St c m g ((a, P) :: n) h' :=
  have S' := S.grow k
  { S' with
    sits := ⟨S'.sits.vw, fun p hp => by
        rcases List.mem_cons.mp hp with rfl | hp
        · exact ⟨o, ho, hP⟩
        · exact S'.sits.ld p hp, fun b hb => by
        rcases List.mem_cons.mp hb with rfl | hb
        · exact S.notin_g hn
        · exact S.sits.off b hb, List.nodup_cons.mpr ⟨S.notin_n hn, S.sits.nd⟩⟩
    Ln := fun q => (List.mem_cons.mp q).elim (fun q => S.ne_L hn q.symm) S.Ln
    fn := fun b hb q => (List.mem_cons.mp q).elim (fun q => ne_of_in hb (S.notin_fs hn) q) (S.fn b hb)
    nnew := fun b hb => by
      rcases List.mem_cons.mp hb with rfl | hb
      · exact .inr (S.keep.old hn)
      · exact S.nnew b hb }
theorem St.see {c m g n h h'} {a : Addr} {o : Obj} (S : St c m g n h) (k : ∀ b o, h.get? b = some o → h'.get? b = some o)
    (hn : h.get? a = none) (ho : h'.get? a = some o) : St c m (gset g a o) n h' :=
  have S' := S.grow k
  have hg := S.notin_g hn
  { S' with
    base := fun b o e => Le.gset hg b o (S.base b o e)
    g0 := S.g0.trans (Le.gset hg)
    sits := ⟨fun b o' e => by
        by_cases q : b = a
        · subst q; rw [gset_self] at e; cases e; exact ho
        · rw [gset_ne q] at e; exact S'.sits.vw b o' e, S'.sits.ld, fun b hb => by
        rw [gset_ne (ne_of_in hb (S.notin_n hn))]; exact S.sits.off b hb, S.sits.nd⟩
    Lg := by rw [gset_ne (S.ne_L hn).symm]; exact S.Lg
    fg := fun b hb => by rw [gset_ne (ne_of_in hb (S.notin_fs hn))]; exact S.fg b hb
    new := fun b o' e => by
      by_cases q : b = a
      · subst q; exact .inr (S.keep.old hn)
      · rw [gset_ne q] at e; exact S.new b o' e }
theorem St.freeze {c m g n h} {a : Addr} {P : Obj → Prop} (S : St c m g ((a, P) :: n) h) (ha : c.h0.get? a = none) : ∃ o, P o ∧ Le g (gset g a o) ∧ St c m (gset g a o) n h := by
  obtain ⟨o, ho, hP⟩ := S.sits.ld (a, P) (.head _)
  have hg : g a = none := S.sits.off a (.head _)
  have nd := List.nodup_cons.mp S.sits.nd
  refine ⟨o, hP, Le.gset hg, { S with
    base := fun b o e => Le.gset hg b o (S.base b o e)
    g0 := S.g0.trans (Le.gset hg)
    sits := ⟨fun b o' e => ?_, fun p hp => S.sits.ld p (.tail _ hp), fun b hb => ?_, nd.2⟩
    Lg := ?_
    Ln := fun q => S.Ln (.tail _ q)
    fg := fun b hb => ?_
    fn := fun b hb q => S.fn b hb (.tail _ q)
    new := fun b o' e => ?_
    nnew := fun b hb => S.nnew b (.tail _ hb) }⟩
  · by_cases q : b = a
    · subst q; rw [gset_self] at e; cases e; exact ho
    · rw [gset_ne q] at e; exact S.sits.vw b o' e
  · rw [gset_ne (ne_of_in hb nd.1)]; exact S.sits.off b (.tail _ hb)
  · rw [gset_ne (fun q => S.Ln (by rw [q]; exact .head _))]; exact S.Lg
  · rw [gset_ne (fun q => S.fn b hb (by rw [q]; exact .head _))]; exact S.fg b hb
  · by_cases q : b = a
    · subst q; exact .inr ha
    · rw [gset_ne q] at e; exact S.new b o' e
theorem St.drop {c m g p n h} (S : St c m g (p :: n) h) : St c m g n h :=
  { S with
    sits := ⟨S.sits.vw, fun q hq => S.sits.ld q (.tail _ hq), fun b hb => S.sits.off b (.tail _ hb), (List.nodup_cons.mp S.sits.nd).2⟩
    Ln := fun q => S.Ln (.tail _ q)
    fn := fun b hb q => S.fn b hb (.tail _ q)
    nnew := fun b hb => S.nnew b (.tail _ hb) }
theorem St.forget {c m m' g n h} (S : St c m g n h) (hm : ∀ p ∈ m', p.2.isSome = true → p ∈ m) (hk : m'.map (·.1) = m.map (·.1)) : St c m' g n h :=
  { S with
    loc := let ⟨mm, a, b⟩ := S.loc; ⟨mm, a, fun x v e => b x v (hm _ e rfl)⟩
    mnd := hk ▸ S.mnd
    mloc := hk ▸ S.mloc }

inductive Swap (a : Addr) (P P' : Obj → Prop) : Led → Led → Prop
  | head {n} : Swap a P P' ((a, P) :: n) ((a, P') :: n)
  | tail {p n n'} : Swap a P P' n n' → Swap a P P' (p :: n) (p :: n')
theorem Swap.addrs {a P P' n n'} (x : Swap a P P' n n') : addrs n' = addrs n := by
  induction x with
  | head => rfl
  | tail _ ih => simp only [Mine.addrs, List.map_cons] at ih ⊢; rw [ih]
theorem Swap.mem {a P P' n n'} (x : Swap a P P' n n') : (a, P) ∈ n := by
  induction x with
  | head => exact .head _
  | tail _ ih => exact .tail _ ih
theorem Swap.in_addrs {a P P' n n'} (x : Swap a P P' n n') : a ∈ Mine.addrs n := List.mem_map.mpr ⟨_, x.mem, rfl⟩
theorem Swap.ld {a P P' n n'} (x : Swap a P P' n n') (nd : (Mine.addrs n).Nodup) : ∀ p ∈ n', p = (a, P') ∨ (p ∈ n ∧ p.1 ≠ a) := by
  induction x with
  | head =>
    intro p hp
    rcases List.mem_cons.mp hp with rfl | hp
    · exact .inl rfl
    · exact .inr ⟨.tail _ hp, ne_of_in (List.mem_map.mpr ⟨p, hp, rfl⟩) (List.nodup_cons.mp nd).1⟩
  | tail r ih =>
    intro p hp
    rcases List.mem_cons.mp hp with rfl | hp
    · exact .inr ⟨.head _, (ne_of_in r.in_addrs (List.nodup_cons.mp nd).1).symm⟩
    · exact (ih (List.nodup_cons.mp nd).2 p hp).imp id fun q => ⟨.tail _ q.1, q.2⟩

theorem St.swap' {c m g n n' h h'} {a : Addr} {P P' : Obj → Prop} {o' : Obj} (S : St c m g n h) (U : Swap a P P' n n') (other : ∀ b o, b ≠ a → h.get? b = some o → h'.get? b = some o) (ho : h'.get? a = some o') (hP : P' o') : St c m g n' h' := by
  have ha := U.in_addrs
  have hL : c.L ≠ a := fun q => S.Ln (q ▸ ha)
  refine { S with
    sits := ⟨fun b o e => other b o (fun q => by rw [q, S.sits.off a ha] at e; cases e) (S.sits.vw b o e), fun p hp => ?_, U.addrs ▸ S.sits.off, U.addrs ▸ S.sits.nd⟩
    loc := let ⟨m', ⟨o, es, ep, e, r⟩, y⟩ := S.loc; ⟨m', ⟨o, es, ep, other _ _ hL e, r⟩, y⟩
    Ln := U.addrs ▸ S.Ln
    fr := ?_
    fn := U.addrs ▸ S.fn
    keep := ⟨fun b o e => ?_, fun b o e hb => ?_⟩
    nnew := U.addrs ▸ S.nnew
    pins := fun p hp => let ⟨⟨o, es, ep, e, r⟩, b, d⟩ := S.pins p hp; ⟨⟨o, es, ep, other _ _ (fun q => S.fn _ b (q ▸ ha)) e, r⟩, b, d⟩ }
  · rcases U.ld S.sits.nd p hp with rfl | ⟨q, qn⟩
    · exact ⟨o', ho, hP⟩
    · obtain ⟨o, e, z⟩ := S.sits.ld p q
      exact ⟨o, other _ _ qn e, z⟩
  · have : ∀ env ∈ c.outer, env.frame ≠ some a := fun env he q => S.fn a (List.mem_filterMap.mpr ⟨env, he, q⟩) ha
    have go : ∀ l : List Env, (∀ env ∈ l, env.frame ≠ some a) → h.FunFrames emptyH l → h'.FunFrames emptyH l := by
      intro l
      induction l with
      | nil => intro _ _; trivial
      | cons env r ih =>
        rintro hne ⟨hk, ⟨L, o, hf, hn, ho2, hd⟩, hr⟩
        exact ⟨hk, ⟨L, o, hf, hn, other L o (fun q => hne env (.head _) (q ▸ hf)) ho2, hd⟩, ih (fun e he => hne e (.tail _ he)) hr⟩
    exact go _ this S.fr
  · obtain ⟨o1, e1⟩ := S.keep.1 b o e
    by_cases q : b = a
    · exact ⟨o', q ▸ ho⟩
    · exact ⟨o1, other b o1 q e1⟩
  · have hne : b ≠ a := fun q => by
      rcases S.nnew a ha with z | z
      · exact hb (q ▸ z)
      · rw [q, z] at e; cases e
    obtain ⟨sl, q⟩ := (S.keep.2 b o e hb).2
    exact ⟨fun hf => other b o hne ((S.keep.2 b o e hb).1 hf), sl, other _ _ hne q⟩
theorem St.swap {c m g n n' h h'} {a : Addr} {P P' : Obj → Prop} {o' : Obj} (S : St c m g n h) (U : Swap a P P' n n') (hsb : Heap.SameBut a h h') (ho : h'.get? a = some o') (hP : P' o') : St c m g n' h' :=
  S.swap' U (fun b o hb e => (hsb.2 b hb).trans e) ho hP

end Mine

namespace Mine
variable {c : Cx} {m : Loc} {g : View} {n : Led} {Φ : Post} {Ψ : XPost}

theorem DO.pure {α : Type} {a : α} {P : α → View → Led → Prop} (h : P a g n) : DO c m g n (pure a) P Ψ :=
  fun s Q E S hQ _ => wpAny_pure (hQ a g n s.heap s.toks h (Le.rfl' g) S)
theorem DO.nest {α β : Type} {t : Sem α} {f : α → Sem β} {P : β → View → Led → Prop} (h : DO c m g n t (fun a g1 n1 => DO c m g1 n1 (f a) P Ψ) Ψ) {s : Shared} {Q : β → Shared → Prop} {E : Value → Shared → Prop}
    (S : St c m g n s.heap) (hQ : ∀ a g' n' h' tk, P a g' n' → Le g g' → St c m g' n' h' → Q a { s with heap := h', toks := tk })
    (hE : ∀ x g' n' h' tk, Ψ g' n' → Le g g' → St c m g' n' h' → Sig c g' n' x h' → E (.ref x) { s with heap := h', toks := tk }) :
    wpAny (model PR c.w) c.A t (fun a s1 => wpAny (model PR c.w) c.A (f a) Q E s1) E s :=
  h s _ E S (fun a g1 n1 h1 tk hΦ le S1 => hΦ { s with heap := h1, toks := tk } Q E S1 (fun a' g' n' h' tk' z le' S' => hQ a' g' n' h' tk' z (le.trans le') S') fun x g' n' h' tk' z le' S' Sg => hE x g' n' h' tk' z (le.trans le') S' Sg) hE
theorem DO.mono {α : Type} {t : Sem α} {P P' : α → View → Led → Prop} {Ψ' : XPost} (h : DO c m g n t P Ψ) (hP : ∀ a g' n', Le g g' → P a g' n' → P' a g' n') (hΨ : ∀ g' n', Ψ g' n' → Ψ' g' n') : DO c m g n t P' Ψ' :=
  fun s Q E S hQ hE => h s Q E S (fun a g' n' h' tk z le S' => hQ a g' n' h' tk (hP a g' n' le z) le S') fun x g' n' h' tk z => hE x g' n' h' tk (hΨ _ _ z)

theorem DO.val {t : Sem Value} {v : Value} (hΦ : Φ v g n) (h : ∀ (s : Shared) (Q : Value → Shared → Prop) (E : Value → Shared → Prop), St c m g n s.heap → (∀ v' h' tk, Is v v' → St c m g n h' → Q v' { s with heap := h', toks := tk }) → wpAny (model PR c.w) c.A t Q E s) :
    DO c m g n t (Vp Φ) Ψ := fun s Q E S hQ _ => h s Q E S fun v' h' tk hv S' => hQ v' g n h' tk ⟨v, hv, hΦ⟩ (Le.rfl' g) S'

theorem EX.loc {x : Str} {pos : Pos} {v : Value} (hm : (x, some v) ∈ m) (h : Φ v g n) : EX c m g n (.Name x pos) Φ Ψ := DO.val h fun s Q E S hQ => by
  obtain ⟨m', ns, hl⟩ := S.loc
  obtain ⟨v', hv, hi⟩ := hl x v hm
  have z := S.mloc x (List.mem_map.mpr ⟨_, hm, rfl⟩)
  exact wpAny_Name (wpAny_loadName_local (env := c.env) S.hk z.1 ns hv (hQ v' s.heap s.toks hi S)) z.2
theorem EX.glob {x : Str} {pos : Pos} {v v₀ : Value} (hx : c.sc.names.lookup x = some .globalImplicit) (e : nsIn (KK c.w) mainGlobals x = some (some v₀)) (hv : Is v v₀) (hd : (x == ("__debug__" : Str)) = false) (h : Φ v g n) :
    EX c m g n (.Name x pos) Φ Ψ := DO.val h fun s Q E S hQ => by
  refine S.G.elim fun p loose mean mg mb T => ?_
  exact Name_function_global (env := c.env) S.hk hx (loadGlobal_global (env := c.env) (T.g.keeps S.stays) (mg_of S.G.K T.g e) (hQ v₀ s.heap s.toks hv S)) hd
theorem EX.bltn {x : Str} {pos : Pos} {v : Value} (hx : c.sc.names.lookup x = some .globalImplicit) (e : nsIn (KK c.w) mainGlobals x = some none) (hb : bootBuiltins x = some v) (hn : x ≠ "__name__") (hd : (x == ("__debug__" : Str)) = false) (h : Φ v g n) :
    EX c m g n (.Name x pos) Φ Ψ := DO.val h fun s Q E S hQ => by
  refine S.G.elim fun p loose mean mg mb T => ?_
  exact Name_function_global (env := c.env) S.hk hx (loadGlobal_builtin (env := c.env) (T.g.keeps S.stays) (mg_none_of S.G.K T.g e) (T.b.keeps S.stays) ((T.builtins x hn).trans hb) (hQ v s.heap s.toks (Is.rfl' v) S)) hd
theorem EX.cell {x : Str} {pos : Pos} {v v₀ : Value} {a : Addr} {o : Obj} (hx : c.sc.names.lookup x = some .cell) (hc : c.cl.lookup x = some a) (ho : g a = some o) (hd : o.data = .cell (some v₀)) (hv : Is v v₀) (hb : (x == ("__debug__" : Str)) = false) (h : Φ v g n) :
    EX c m g n (.Name x pos) Φ Ψ := DO.val h fun s Q E S hQ =>
  wpAny_Name (wpAny_loadName_cell (env := c.env) S.hk hx hc ⟨o, S.sits.vw _ _ ho, hd⟩ (hQ v₀ s.heap s.toks hv S)) hb
theorem EX.free {x : Str} {pos : Pos} {v v₀ : Value} {a : Addr} {o : Obj} (hx : c.sc.names.lookup x = some .free) (hc : c.cl.lookup x = some a) (ho : g a = some o) (hd : o.data = .cell (some v₀)) (hv : Is v v₀) (hb : (x == ("__debug__" : Str)) = false)
    (hcd : (x == ("__classdict__" : Str)) = false) (h : Φ v g n) : EX c m g n (.Name x pos) Φ Ψ := DO.val h fun s Q E S hQ =>
  wpAny_Name (wpAny_loadName_free (env := c.env) S.hk hx hc ⟨o, S.sits.vw _ _ ho, hd⟩ (hQ v₀ s.heap s.toks hv S) hcd) hb
theorem EX.intC {i : Int} {k : Nat} {pos : Pos} (h : Φ (.int i 0) g n) : EX c m g n (.Constant (.int i) k pos) Φ Ψ := DO.val h fun s Q E S hQ => wpAny_Constant_int (hQ _ s.heap _ ⟨_, rfl⟩ S)
theorem EX.strC {x : Str} {k : Nat} {pos : Pos} (h : Φ (.str x 0) g n) : EX c m g n (.Constant (.str x) k pos) Φ Ψ := DO.val h fun s Q E S hQ => wpAny_Constant_str (hQ _ s.heap _ ⟨_, rfl⟩ S)
theorem EX.boolC {b : Bool} {k : Nat} {pos : Pos} (h : Φ (.bool b) g n) : EX c m g n (.Constant (.bool b) k pos) Φ Ψ := DO.val h fun s Q E S hQ => wpAny_Constant_bool (hQ _ s.heap s.toks rfl S)
theorem EX.noneC {k : Nat} {pos : Pos} (h : Φ .none g n) : EX c m g n (.Constant .none k pos) Φ Ψ := DO.val h fun s Q E S hQ => wpAny_Constant_none (hQ _ s.heap s.toks rfl S)

def BO (c : Cx) (m : Loc) (g : View) (n : Led) (op : Operator) (u v : Value) (Φ : Post) (Ψ : XPost) : Prop := ∀ u' v', Is u u' → Is v v' → DO c m g n (binaryOp op u' v') (Vp Φ) Ψ
def CO (c : Cx) (m : Loc) (g : View) (n : Led) (op : CmpOp) (u v : Value) (Φ : Post) (Ψ : XPost) : Prop := ∀ u' v', Is u u' → Is v v' → DO c m g n (compareOp op u' v') (Vp Φ) Ψ
def UO (c : Cx) (m : Loc) (g : View) (n : Led) (op : UnaryOp) (u : Value) (Φ : Post) (Ψ : XPost) : Prop := ∀ u', Is u u' → DO c m g n (unaryOp op u') (Vp Φ) Ψ
def TR (c : Cx) (m : Loc) (g : View) (n : Led) (u : Value) (Φ : BPost) (Ψ : XPost) : Prop := ∀ u', Is u u' → DO c m g n (truthy u') Φ Ψ
def AT (c : Cx) (m : Loc) (g : View) (n : Led) (u : Value) (x : Str) (Φ : Post) (Ψ : XPost) : Prop := ∀ u', Is u u' → DO c m g n (getAttr u' x true) (Vp Φ) Ψ

abbrev kBO (c : Cx) (m : Loc) (op : Operator) (u : Value) (Φ : Post) (Ψ : XPost) : Post := fun v g n => BO c m g n op u v Φ Ψ
abbrev kBin (c : Cx) (m : Loc) (op : Operator) (r : Expr) (Φ : Post) (Ψ : XPost) : Post := fun u g n => EX c m g n r (kBO c m op u Φ Ψ) Ψ
abbrev kCO (c : Cx) (m : Loc) (op : CmpOp) (u : Value) (Φ : Post) (Ψ : XPost) : Post := fun v g n => CO c m g n op u v Φ Ψ
abbrev kCmp (c : Cx) (m : Loc) (op : CmpOp) (r : Expr) (Φ : Post) (Ψ : XPost) : Post := fun u g n => EX c m g n r (kCO c m op u Φ Ψ) Ψ
abbrev kUO (c : Cx) (m : Loc) (op : UnaryOp) (Φ : Post) (Ψ : XPost) : Post := fun u g n => UO c m g n op u Φ Ψ
abbrev kAT (c : Cx) (m : Loc) (y : Str) (Φ : Post) (Ψ : XPost) : Post := fun u g n => AT c m g n u y Φ Ψ
abbrev kNo (Φ : Post) : BPost := fun b g n => Φ (.bool (!b)) g n
abbrev kNoB (P : BPost) : BPost := fun b g n => P (!b) g n
abbrev kTR (c : Cx) (m : Loc) (P : BPost) (Ψ : XPost) : Post := fun v g n => TR c m g n v P Ψ
abbrev kAnd (c : Cx) (m : Loc) (e : Expr) (P : BPost) (Ψ : XPost) : BPost := fun b g n => (b = true → TX c m g n e P Ψ) ∧ (b = false → P false g n)
abbrev kOr (c : Cx) (m : Loc) (e : Expr) (P : BPost) (Ψ : XPost) : BPost := fun b g n => (b = false → TX c m g n e P Ψ) ∧ (b = true → P true g n)
abbrev kIfE (c : Cx) (m : Loc) (b o : Expr) (Φ : Post) (Ψ : XPost) : BPost := fun z g n => (z = true → EX c m g n b Φ Ψ) ∧ (z = false → EX c m g n o Φ Ψ)
abbrev kIfT (c : Cx) (m : Loc) (b o : Expr) (P : BPost) (Ψ : XPost) : BPost := fun z g n => (z = true → TX c m g n b P Ψ) ∧ (z = false → TX c m g n o P Ψ)
abbrev kAndB (c : Cx) (m : Loc) (e : Expr) (v : Value) (Φ : Post) (Ψ : XPost) : BPost := fun b g n => (b = true → EX c m g n e Φ Ψ) ∧ (b = false → Φ v g n)
abbrev kAndE (c : Cx) (m : Loc) (e : Expr) (Φ : Post) (Ψ : XPost) : Post := fun v g n => TR c m g n v (kAndB c m e v Φ Ψ) Ψ
abbrev kOrB (c : Cx) (m : Loc) (e : Expr) (v : Value) (Φ : Post) (Ψ : XPost) : BPost := fun b g n => (b = false → EX c m g n e Φ Ψ) ∧ (b = true → Φ v g n)
abbrev kOrE (c : Cx) (m : Loc) (e : Expr) (Φ : Post) (Ψ : XPost) : Post := fun v g n => TR c m g n v (kOrB c m e v Φ Ψ) Ψ
theorem DO.two {β : Type} {t : Sem Value} {f : Value → Sem β} {P : β → View → Led → Prop} (h : DO c m g n t (Vp fun v g1 n1 => ∀ v', Is v v' → DO c m g1 n1 (f v') P Ψ) Ψ) {s : Shared} {Q : β → Shared → Prop} {E : Value → Shared → Prop}
    (S : St c m g n s.heap) (hQ : ∀ a g' n' h' tk, P a g' n' → Le g g' → St c m g' n' h' → Q a { s with heap := h', toks := tk })
    (hE : ∀ x g' n' h' tk, Ψ g' n' → Le g g' → St c m g' n' h' → Sig c g' n' x h' → E (.ref x) { s with heap := h', toks := tk }) :
    wpAny (model PR c.w) c.A t (fun a s1 => wpAny (model PR c.w) c.A (f a) Q E s1) E s :=
  DO.nest (h.mono (fun a g' n' _ z => let ⟨v, hv, k⟩ := z; k a hv) fun _ _ z => z) S hQ hE

theorem DO.of2 {β : Type} {t : Sem Value} {f : Value → Sem β} {P : β → View → Led → Prop} {T : Sem β} (h : DO c m g n t (Vp fun v g1 n1 => ∀ v', Is v v' → DO c m g1 n1 (f v') P Ψ) Ψ)
    (rule : ∀ {s : Shared} {Q : β → Shared → Prop} {E : Value → Shared → Prop}, wpAny (model PR c.w) c.A t (fun a s1 => wpAny (model PR c.w) c.A (f a) Q E s1) E s → wpAny (model PR c.w) c.A T Q E s) : DO c m g n T P Ψ :=
  fun s Q E S hQ hE => rule (DO.two h S hQ hE)
theorem DO.of3 {β : Type} {t u : Sem Value} {f : Value → Value → Sem β} {P : β → View → Led → Prop} {T : Sem β} (h : DO c m g n t (Vp fun v g1 n1 => ∀ v', Is v v' → DO c m g1 n1 u (Vp fun w g2 n2 => ∀ w', Is w w' → DO c m g2 n2 (f v' w') P Ψ) Ψ) Ψ)
    (rule : ∀ {s : Shared} {Q : β → Shared → Prop} {E : Value → Shared → Prop}, wpAny (model PR c.w) c.A t (fun a s1 => wpAny (model PR c.w) c.A u (fun b s2 => wpAny (model PR c.w) c.A (f a b) Q E s2) E s1) E s → wpAny (model PR c.w) c.A T Q E s) : DO c m g n T P Ψ :=
  fun s Q E S hQ hE => rule (h s _ E S (fun a g1 n1 h1 tk z le S1 => by
    obtain ⟨v, hv, k⟩ := z
    exact DO.two (s := { s with heap := h1, toks := tk }) (k a hv) S1 (fun a' g' n' h' tk' z le' S' => hQ a' g' n' h' tk' z (le.trans le') S') fun x g' n' h' tk' z le' S' Sg => hE x g' n' h' tk' z (le.trans le') S' Sg) hE)

theorem EX.bin {l r : Expr} {op : Operator} {pos : Pos} (h : EX c m g n l (kBin c m op r Φ Ψ) Ψ) : EX c m g n (.BinOp l op r pos) Φ Ψ :=
  DO.of3 (DO.mono h (fun a g' n' _ z => let ⟨v, hv, k⟩ := z; ⟨v, hv, fun v' hv' => DO.mono k (fun b g'' n'' _ z => let ⟨w, hw, k⟩ := z; ⟨w, hw, fun w' hw' => k v' w' hv' hw'⟩) fun _ _ z => z⟩) fun _ _ z => z) fun h => wpAny_BinOp h
theorem EX.cmp {l r : Expr} {op : CmpOp} {pos : Pos} (h : EX c m g n l (kCmp c m op r Φ Ψ) Ψ) (hm : behindInMarks op r = false := by with_unfolding_all rfl) : EX c m g n (.Compare l [op] [r] pos) Φ Ψ :=
  DO.of3 (DO.mono h (fun a g' n' _ z => let ⟨v, hv, k⟩ := z; ⟨v, hv, fun v' hv' => DO.mono k (fun b g'' n'' _ z => let ⟨w, hw, k⟩ := z; ⟨w, hw, fun w' hw' => k v' w' hv' hw'⟩) fun _ _ z => z⟩) fun _ _ z => z) fun h => wpAny_Compare1 h hm
theorem EX.un {x : Expr} {op : UnaryOp} {pos : Pos} (h : EX c m g n x (kUO c m op Φ Ψ) Ψ) : EX c m g n (.UnaryOp op x pos) Φ Ψ := DO.of2 (f := unaryOp op) h fun h => wpAny_UnaryOp h
theorem EX.attr {x : Expr} {y : Str} {pos : Pos} (h : EX c m g n x (kAT c m y Φ Ψ) Ψ)
    (he : eval (.Attribute x y pos) c.env = (do
      let o ← eval x c.env
      standAt pos.atName
      let r ← holding [o] (getAttr o y true)
      letTemporaryGo x o r
      pure r) := by with_unfolding_all rfl) : EX c m g n (.Attribute x y pos) Φ Ψ := DO.of2 (f := fun o => getAttr o y true) h fun h => Attribute_any_ h he

theorem BO.add {i j : Int} {t u : Tok} (h : Φ (.int (i + j) 0) g n) : BO c m g n .Add (.int i t) (.int j u) Φ Ψ := fun u' v' hu hv => DO.val h fun s Q E S hQ => by
  obtain ⟨_, rfl⟩ := hu; obtain ⟨_, rfl⟩ := hv; exact add_int (hQ _ s.heap _ ⟨_, rfl⟩ S)
theorem BO.sub {i j : Int} {t u : Tok} (h : Φ (.int (i - j) 0) g n) : BO c m g n .Sub (.int i t) (.int j u) Φ Ψ := fun u' v' hu hv => DO.val h fun s Q E S hQ => by
  obtain ⟨_, rfl⟩ := hu; obtain ⟨_, rfl⟩ := hv; exact sub_int (hQ _ s.heap _ ⟨_, rfl⟩ S)
theorem BO.mod {i j : Int} {t u : Tok} (hj : j ≠ 0) (h : Φ (.int (i.fmod j) 0) g n) : BO c m g n .Mod (.int i t) (.int j u) Φ Ψ := fun u' v' hu hv => DO.val h fun s Q E S hQ => by
  obtain ⟨_, rfl⟩ := hu; obtain ⟨_, rfl⟩ := hv; exact mod_int hj (hQ _ s.heap _ ⟨_, rfl⟩ S)
theorem BO.div {i j : Int} {t u : Tok} (hj : j ≠ 0) (hp : Builtin.divisionGoesByPylong i j = false) (h : Φ (.int (i.fdiv j) 0) g n) : BO c m g n .FloorDiv (.int i t) (.int j u) Φ Ψ := fun u' v' hu hv => DO.val h fun s Q E S hQ => by
  obtain ⟨_, rfl⟩ := hu; obtain ⟨_, rfl⟩ := hv; exact floordiv_int hj (hQ _ s.heap _ ⟨_, rfl⟩ S) (.inl hp)
theorem BO.mul {i j : Int} {t u : Tok} (hm : IntMulOk i j) (h : Φ (.int (i * j) 0) g n) : BO c m g n .Mult (.int i t) (.int j u) Φ Ψ := fun u' v' hu hv => DO.val h fun s Q E S hQ => by
  obtain ⟨_, rfl⟩ := hu; obtain ⟨_, rfl⟩ := hv; exact PyProof.Rows.mul_int (hQ _ s.heap _ ⟨_, rfl⟩ S) hm
theorem CO.lt {i j : Int} {t u : Tok} (h : Φ (.bool (decide (i < j))) g n) : CO c m g n .Lt (.int i t) (.int j u) Φ Ψ := fun u' v' hu hv => DO.val h fun s Q E S hQ => by
  obtain ⟨_, rfl⟩ := hu; obtain ⟨_, rfl⟩ := hv; exact lt_int (hQ _ s.heap s.toks rfl S)
theorem CO.gt {i j : Int} {t u : Tok} (h : Φ (.bool (decide (j < i))) g n) : CO c m g n .Gt (.int i t) (.int j u) Φ Ψ := fun u' v' hu hv => DO.val h fun s Q E S hQ => by
  obtain ⟨_, rfl⟩ := hu; obtain ⟨_, rfl⟩ := hv; exact gt_int (hQ _ s.heap s.toks rfl S)
theorem CO.le {i j : Int} {t u : Tok} (h : Φ (.bool (decide (i ≤ j))) g n) : CO c m g n .LtE (.int i t) (.int j u) Φ Ψ := fun u' v' hu hv => DO.val h fun s Q E S hQ => by
  obtain ⟨_, rfl⟩ := hu; obtain ⟨_, rfl⟩ := hv; exact PyProof.Rows.le_int (hQ _ s.heap s.toks rfl S)
theorem CO.eq {i j : Int} {t u : Tok} (h : Φ (.bool (i == j)) g n) : CO c m g n .Eq (.int i t) (.int j u) Φ Ψ := fun u' v' hu hv => DO.val h fun s Q E S hQ => by
  obtain ⟨_, rfl⟩ := hu; obtain ⟨_, rfl⟩ := hv; exact eq_int (hQ _ s.heap s.toks rfl S)
theorem CO.ne {i j : Int} {t u : Tok} (h : Φ (.bool (i != j)) g n) : CO c m g n .NotEq (.int i t) (.int j u) Φ Ψ := fun u' v' hu hv => DO.val h fun s Q E S hQ => by
  obtain ⟨_, rfl⟩ := hu; obtain ⟨_, rfl⟩ := hv; exact ne_int (hQ _ s.heap s.toks rfl S)

def NT (g : View) (n : Led) (a : Addr) : Prop := (∃ o, g a = some o ∧ o.cls ≠ .type "tuple") ∨ ∃ P, (a, P) ∈ n ∧ ∀ o, P o → o.cls ≠ .type "tuple"
def Th (g : View) (n : Led) (a : Addr) : Prop := (∃ o, g a = some o) ∨ ∃ P, (a, P) ∈ n
theorem NT.th {g n a} (h : NT g n a) : Th g n a := h.elim (fun ⟨o, e, _⟩ => .inl ⟨o, e⟩) fun ⟨P, e, _⟩ => .inr ⟨P, e⟩
theorem NT.get {c m g n h a} (S : St c m g n h) (x : NT g n a) : ∃ o, h.get? a = some o ∧ o.cls ≠ .type "tuple" := by
  rcases x with ⟨o, e, k⟩ | ⟨P, e, k⟩
  · exact ⟨o, S.sits.vw _ _ e, k⟩
  · obtain ⟨o, q, z⟩ := S.sits.ld _ e
    exact ⟨o, q, k o z⟩
theorem Th.get {c m g n h a} (S : St c m g n h) (x : Th g n a) : ∃ o, h.get? a = some o := by
  rcases x with ⟨o, e⟩ | ⟨P, e⟩
  · exact ⟨o, S.sits.vw _ _ e⟩
  · obtain ⟨o, q, z⟩ := S.sits.ld _ e
    exact ⟨o, q⟩
theorem Cell.nt {a x y} (h : Cell g a x y) : NT g n a := let ⟨d, o, e, _⟩ := h; .inl ⟨_, e, by intro q; cases q⟩
theorem Lst.nt {a us} (h : Lst g a us) : NT g n a := by
  obtain ⟨o, e, its, k, rfl, _⟩ := h
  exact .inl ⟨_, e, by intro q; simp at q⟩
theorem CO.is {a b : Addr} (ha : NT g n a) (hb : Th g n b) (h : Φ (.bool (decide (a = b))) g n) : CO c m g n .Is (.ref a) (.ref b) Φ Ψ := fun u' v' hu hv => DO.val h fun s Q E S hQ => by
  obtain rfl := hu.ref; obtain rfl := hv.ref
  by_cases e : a = b
  · subst e; exact wpAny_is_ref_self (hQ _ s.heap s.toks (by simp [Is]) S)
  · obtain ⟨oa, ha, hc⟩ := ha.get S
    obtain ⟨ob, hb⟩ := hb.get S
    exact wpAny_is_ref_other e ha hb hc (hQ _ s.heap s.toks (by simp [Is, e]) S)
theorem CO.isnt {a b : Addr} (ha : NT g n a) (hb : Th g n b) (h : Φ (.bool (!decide (a = b))) g n) : CO c m g n .IsNot (.ref a) (.ref b) Φ Ψ := fun u' v' hu hv => DO.val h fun s Q E S hQ => by
  obtain rfl := hu.ref; obtain rfl := hv.ref
  by_cases e : a = b
  · subst e; exact wpAny_isNot_ref_self (hQ _ s.heap s.toks (by simp [Is]) S)
  · obtain ⟨oa, ha, hc⟩ := ha.get S
    obtain ⟨ob, hb⟩ := hb.get S
    exact wpAny_isNot_ref_other e ha hb hc (hQ _ s.heap s.toks (by simp [Is, e]) S)
theorem CO.isNone {v : Value} (h : Φ (.bool (v == .none)) g n) : CO c m g n .Is v .none Φ Ψ := fun u' v' hu hv => DO.val h fun s Q E S hQ => by
  obtain rfl := hv.none
  refine PySem.is_none (hQ _ s.heap s.toks ?_ S)
  show _ = _
  cases v <;> first | (obtain ⟨_, rfl⟩ := hu; rfl) | (cases hu; rfl)
theorem CO.isntNone {v : Value} (h : Φ (.bool (!(v == .none))) g n) : CO c m g n .IsNot v .none Φ Ψ := fun u' v' hu hv => DO.val h fun s Q E S hQ => by
  obtain rfl := hv.none
  refine PySem.isNot_none (hQ _ s.heap s.toks ?_ S)
  show _ = _
  cases v <;> first | (obtain ⟨_, rfl⟩ := hu; rfl) | (cases hu; rfl)
theorem CO.neBool {b d : Bool} (h : Φ (.bool (b != d)) g n) : CO c m g n .NotEq (.bool b) (.bool d) Φ Ψ := fun u' v' hu hv => DO.val h fun s Q E S hQ => by
  obtain rfl := hu.bool; obtain rfl := hv.bool
  exact ne_bool (hQ _ s.heap s.toks (Is.rfl' _) S)

theorem TR.bool {b : Bool} {P : BPost} (h : P b g n) : TR c m g n (.bool b) P Ψ := fun u' hu s Q E S hQ _ => by
  obtain rfl := hu.bool; exact wpAny_truthy_bool (hQ b g n s.heap s.toks h (Le.rfl' g) S)
theorem TR.none {P : BPost} (h : P false g n) : TR c m g n .none P Ψ := fun u' hu s Q E S hQ _ => by
  obtain rfl := hu.none; exact truthy_none (hQ false g n s.heap s.toks h (Le.rfl' g) S)
theorem UO.not {v : Value} (h : TR c m g n v (kNo Φ) Ψ) : UO c m g n .Not v Φ Ψ := fun u' hu s Q E S hQ hE =>
  not_of (h u' hu s _ E S (fun b g' n' h' tk z le S' => hQ _ g' n' h' tk ⟨_, Is.rfl' _, z⟩ le S') hE)
theorem UO.neg {i : Int} {t : Tok} (h : Φ (.int (-i) 0) g n) : UO c m g n .USub (.int i t) Φ Ψ := fun u' hu => DO.val h fun s Q E S hQ => by
  obtain ⟨_, rfl⟩ := hu; exact PyProof.Rows.neg_int (hQ _ s.heap _ ⟨_, rfl⟩ S)
theorem TX.plain {e : Expr} {P : BPost} (h : EX c m g n e (kTR c m P Ψ) Ψ) (he : ∀ whole, isTrue e c.env whole = (do let v ← whole; standAt e.pos; holding [v] (truthy v)) := by intro _; rfl) : TX c m g n e P Ψ :=
  DO.of2 (f := truthy) h fun h => isTrue_plain h (he _)
theorem TX.cmp {l r : Expr} {op : CmpOp} {pos : Pos} {P : BPost} (h : EX c m g n l (kCmp c m op r (kTR c m P Ψ) Ψ) Ψ) (hm : behindInMarks op r = false := by with_unfolding_all rfl) : TX c m g n (.Compare l [op] [r] pos) P Ψ :=
  fun s Q E S hQ hE => wpAny_isTrue_Compare1 (h s _ E S (fun a g1 n1 h1 tk z le S1 => by
    obtain ⟨v, hv, k⟩ := z
    refine k { s with heap := h1, toks := tk } _ E S1 (fun b g2 n2 h2 tk2 z le2 S2 => ?_) fun x g' n' h' tk' z le' S' Sg => hE x g' n' h' tk' z (le.trans le') S' Sg
    obtain ⟨w, hw, k⟩ := z
    exact DO.two (s := { s with heap := h2, toks := tk2 }) (DO.mono (k a b hv hw) (fun _ _ _ _ z => let ⟨v, hv, k⟩ := z; ⟨v, hv, fun v' hv' => k v' hv'⟩) fun _ _ z => z) S2
      (fun a' g' n' h' tk' z le' S' => hQ a' g' n' h' tk' z ((le.trans le2).trans le') S') fun x g' n' h' tk' z le' S' Sg => hE x g' n' h' tk' z ((le.trans le2).trans le') S' Sg) hE) hm
theorem TX.not {x : Expr} {pos : Pos} {P : BPost} (h : TX c m g n x (kNoB P) Ψ) : TX c m g n (.UnaryOp .Not x pos) P Ψ :=
  fun s Q E S hQ hE => isTrue_not (h s _ E S (fun b g' n' h' tk z le S' => hQ _ g' n' h' tk z le S') hE)
theorem TX.and_nil {pos : Pos} {P : BPost} (h : P true g n) : TX c m g n (.BoolOp .And [] pos) P Ψ := fun s Q E S hQ hE => isTrue_and_nil (hQ true g n s.heap s.toks h (Le.rfl' g) S)
theorem TX.or_nil {pos : Pos} {P : BPost} (h : P false g n) : TX c m g n (.BoolOp .Or [] pos) P Ψ := fun s Q E S hQ hE => isTrue_or_nil (hQ false g n s.heap s.toks h (Le.rfl' g) S)
theorem isTrue_and_whole {e : List Expr} {pos : Pos} {op : BoolOp} {env : Env} {w w' : Sem Value} : isTrue (.BoolOp op e pos) env w = isTrue (.BoolOp op e pos) env w' := rfl
theorem TX.and {x : Expr} {rest : List Expr} {pos : Pos} {P : BPost} (h : TX c m g n x (kAnd c m (.BoolOp .And rest pos) P Ψ) Ψ) : TX c m g n (.BoolOp .And (x :: rest) pos) P Ψ :=
  fun s Q E S hQ hE => isTrue_and (h s _ E S (fun b g1 n1 h1 tk z le S1 => by
    cases b with
    | false => exact hQ false g1 n1 h1 tk (z.2 rfl) le S1
    | true => exact z.1 rfl { s with heap := h1, toks := tk } Q E S1 (fun a' g' n' h' tk' z le' S' => hQ a' g' n' h' tk' z (le.trans le') S') fun x g' n' h' tk' z le' S' Sg => hE x g' n' h' tk' z (le.trans le') S' Sg) hE)
theorem TX.or {x : Expr} {rest : List Expr} {pos : Pos} {P : BPost} (h : TX c m g n x (kOr c m (.BoolOp .Or rest pos) P Ψ) Ψ) : TX c m g n (.BoolOp .Or (x :: rest) pos) P Ψ :=
  fun s Q E S hQ hE => isTrue_or (h s _ E S (fun b g1 n1 h1 tk z le S1 => by
    cases b with
    | true => exact hQ true g1 n1 h1 tk (z.2 rfl) le S1
    | false => exact z.1 rfl { s with heap := h1, toks := tk } Q E S1 (fun a' g' n' h' tk' z le' S' => hQ a' g' n' h' tk' z (le.trans le') S') fun x g' n' h' tk' z le' S' Sg => hE x g' n' h' tk' z (le.trans le') S' Sg) hE)
theorem EX.ife {t b o : Expr} {pos : Pos} (h : TX c m g n t (kIfE c m b o Φ Ψ) Ψ) : EX c m g n (.IfExp t b o pos) Φ Ψ :=
  fun s Q E S hQ hE => IfExp_ (h s _ E S (fun z g1 n1 h1 tk k le S1 => by
    cases z with
    | true => exact k.1 rfl { s with heap := h1, toks := tk } Q E S1 (fun a' g' n' h' tk' z le' S' => hQ a' g' n' h' tk' z (le.trans le') S') fun x g' n' h' tk' z le' S' Sg => hE x g' n' h' tk' z (le.trans le') S' Sg
    | false => exact k.2 rfl { s with heap := h1, toks := tk } Q E S1 (fun a' g' n' h' tk' z le' S' => hQ a' g' n' h' tk' z (le.trans le') S') fun x g' n' h' tk' z le' S' Sg => hE x g' n' h' tk' z (le.trans le') S' Sg) hE)
theorem TX.ife {t b o : Expr} {pos : Pos} {P : BPost} (h : TX c m g n t (kIfT c m b o P Ψ) Ψ) : TX c m g n (.IfExp t b o pos) P Ψ :=
  fun s Q E S hQ hE => isTrue_IfExp (h s _ E S (fun z g1 n1 h1 tk k le S1 => by
    cases z with
    | true => exact k.1 rfl { s with heap := h1, toks := tk } Q E S1 (fun a' g' n' h' tk' z le' S' => hQ a' g' n' h' tk' z (le.trans le') S') fun x g' n' h' tk' z le' S' Sg => hE x g' n' h' tk' z (le.trans le') S' Sg
    | false => exact k.2 rfl { s with heap := h1, toks := tk } Q E S1 (fun a' g' n' h' tk' z le' S' => hQ a' g' n' h' tk' z (le.trans le') S') fun x g' n' h' tk' z le' S' Sg => hE x g' n' h' tk' z (le.trans le') S' Sg) hE)
theorem EX.and_one {e : Expr} {pos : Pos} {op : BoolOp} (h : EX c m g n e Φ Ψ) : EX c m g n (.BoolOp op [e] pos) Φ Ψ := fun s Q E S hQ hE => BoolOp_one (h s Q E S hQ hE)
theorem EX.and {e₁ e₂ : Expr} {rest : List Expr} {pos : Pos} (h : EX c m g n e₁ (kAndE c m (.BoolOp .And (e₂ :: rest) pos) Φ Ψ) Ψ) :
    EX c m g n (.BoolOp .And (e₁ :: e₂ :: rest) pos) Φ Ψ :=
  fun s Q E S hQ hE => BoolOp_and (h s _ E S (fun a g1 n1 h1 tk z le S1 => by
    obtain ⟨v, hv, k⟩ := z
    refine k a hv { s with heap := h1, toks := tk } _ E S1 (fun b g2 n2 h2 tk2 z le2 S2 => ?_) fun x g' n' h' tk' z le' S' Sg => hE x g' n' h' tk' z (le.trans le') S' Sg
    cases b with
    | false => exact hQ a g2 n2 h2 tk2 ⟨v, hv, z.2 rfl⟩ (le.trans le2) S2
    | true => exact z.1 rfl { s with heap := h2, toks := tk2 } Q E S2 (fun a' g' n' h' tk' z le' S' => hQ a' g' n' h' tk' z ((le.trans le2).trans le') S') fun x g' n' h' tk' z le' S' Sg => hE x g' n' h' tk' z ((le.trans le2).trans le') S' Sg) hE)
theorem EX.or {e₁ e₂ : Expr} {rest : List Expr} {pos : Pos} (h : EX c m g n e₁ (kOrE c m (.BoolOp .Or (e₂ :: rest) pos) Φ Ψ) Ψ) :
    EX c m g n (.BoolOp .Or (e₁ :: e₂ :: rest) pos) Φ Ψ :=
  fun s Q E S hQ hE => BoolOp_or (h s _ E S (fun a g1 n1 h1 tk z le S1 => by
    obtain ⟨v, hv, k⟩ := z
    refine k a hv { s with heap := h1, toks := tk } _ E S1 (fun b g2 n2 h2 tk2 z le2 S2 => ?_) fun x g' n' h' tk' z le' S' Sg => hE x g' n' h' tk' z (le.trans le') S' Sg
    cases b with
    | true => exact hQ a g2 n2 h2 tk2 ⟨v, hv, z.2 rfl⟩ (le.trans le2) S2
    | false => exact z.1 rfl { s with heap := h2, toks := tk2 } Q E S2 (fun a' g' n' h' tk' z le' S' => hQ a' g' n' h' tk' z ((le.trans le2).trans le') S') fun x g' n' h' tk' z le' S' Sg => hE x g' n' h' tk' z ((le.trans le2).trans le') S' Sg) hE)
end Mine

namespace Mine
variable {c : Cx} {m : Loc} {g : View} {n : Led} {Φ : Post} {Ψ : XPost}

theorem St.frames {h} (S : St c m g n h) : h.FunFrames emptyH c.stk := by
  by_cases hc : c.comp = true
  · rw [Cx.stk_comp hc]; exact S.fr
  · have hc : c.comp = false := by simpa using hc
    rw [Cx.stk_def hc]
    obtain ⟨m', ⟨o, es, ep, ho, hd, _⟩, _⟩ := S.loc
    exact ⟨by show c.sc.kind ≠ _; rw [S.hk]; decide, ⟨c.fa, o, rfl, emptyH_get _, by rw [S.hdef hc]; exact ho, fun vs q => by rw [hd] at q; cases q⟩, S.fr⟩
theorem St.stk_sub {h} (S : St c m g n h) : ∀ a ∈ fsOf c.stk, a ∈ c.L :: c.fs := by
  by_cases hc : c.comp = true
  · rw [Cx.stk_comp hc]; exact fun a ha => .tail _ ha
  · have hc : c.comp = false := by simpa using hc
    rw [Cx.stk_def hc]
    intro a ha
    have e : fsOf (c.env :: c.outer) = c.fa :: c.fs := rfl
    rw [e, S.hdef hc] at ha; exact ha
theorem Keep.mono {fs fs' ns : List Addr} {h h' : Heap} (k : Keep fs ns h h') (hs : ∀ a ∈ fs, a ∈ fs') : Keep fs' ns h h' := ⟨k.1, fun b o e hb => ⟨fun hf => (k.2 b o e hb).1 fun q => hf (hs b q), (k.2 b o e hb).2⟩⟩
theorem Slots.keep {S : List Addr} {h h' : Heap} (x : Heap.SlotsOnly S h h') (ns : List Addr) : Keep S ns h h' :=
  ⟨fun b o e => let ⟨sl, q⟩ := x.2.2 b o e; ⟨_, q⟩, fun b o e _ => ⟨fun hb => (x.2.1 b hb).trans e, x.2.2 b o e⟩⟩
theorem Ns.slots {h h' : Heap} {a : Addr} {m : Str → Option Value} (x : h.Ns a m) (k : ∀ o, h.get? a = some o → ∃ sl, h'.get? a = some { o with slots := sl }) : h'.Ns a m := by
  obtain ⟨o, es, ep, ho, hd, r⟩ := x
  obtain ⟨sl, e⟩ := k o ho
  exact ⟨_, es, ep, e, hd, r⟩
theorem FunFrames.upto {h h' : Heap} : ∀ {l : List Env}, (∀ b ∈ fsOf l, ∀ o, h.get? b = some o → ∃ sl, h'.get? b = some { o with slots := sl }) → h.FunFrames emptyH l → h'.FunFrames emptyH l
  | [], _, _ => trivial
  | env :: r, k, ⟨hk, ⟨L, o, hf, hn, ho, hd⟩, hr⟩ => by
    have e0 : fsOf (env :: r) = L :: fsOf r := by simp [fsOf, hf]
    obtain ⟨sl, e⟩ := k L (by rw [e0]; exact .head _) o ho
    exact ⟨hk, ⟨L, _, hf, hn, e, hd⟩, FunFrames.upto (fun b hb => k b (by rw [e0]; exact .tail _ hb)) hr⟩

theorem St.upto {h h'} (S : St c m g n h) (k : Keep (c.L :: c.fs) [] h h') : St c m g n h' := by
  have e1 : ∀ b o, h.get? b = some o → b ≠ c.L → b ∉ c.fs → h'.get? b = some o := fun b o e hL hf => (k.2 b o e (by simp)).1 (by simp [hL, hf])
  have e2 : ∀ b o, h.get? b = some o → ∃ sl, h'.get? b = some { o with slots := sl } := fun b o e => (k.2 b o e (by simp)).2
  refine { S with
    sits := ⟨fun a o e => e1 a o (S.sits.vw a o e) (fun q => by rw [q, S.Lg] at e; cases e) (fun q => by rw [S.fg a q] at e; cases e), fun p hp => ?_, S.sits.off, S.sits.nd⟩
    loc := let ⟨m', x, y⟩ := S.loc; ⟨m', Ns.slots x fun o e => e2 _ o e, y⟩
    fr := FunFrames.upto (fun b _ o e => e2 b o e) S.fr
    keep := ⟨fun b o e => let ⟨o', e'⟩ := S.keep.1 b o e; k.1 b o' e', fun b o e hb => ?_⟩
    pins := fun p hp => let ⟨x, y⟩ := S.pins p hp; ⟨Ns.slots x fun o e => e2 _ o e, y⟩ }
  · obtain ⟨o, e, q⟩ := S.sits.ld p hp
    have hm : p.1 ∈ addrs n := List.mem_map.mpr ⟨p, hp, rfl⟩
    exact ⟨o, e1 _ o e (fun z => S.Ln (z ▸ hm)) (fun z => S.fn _ z hm), q⟩
  · obtain ⟨a1, sl, a2⟩ := S.keep.2 b o e hb
    refine ⟨fun hf => e1 b o (a1 hf) (fun q => by rw [q, S.Lnew] at e; cases e) hf, ?_⟩
    obtain ⟨sl', a3⟩ := e2 b _ a2
    exact ⟨sl', a3⟩
theorem St.other {h h'} {a : Addr} (S : St c m g n h) (hs : Heap.SameBut a h h') (hg : g a = none) (hn : a ∉ addrs n) (hf : a ∉ c.L :: c.fs) (hlo : c.h0.get? a = none) (hp : h'.get? a ≠ none) : St c m g n h' := by
  have e1 : ∀ b o, b ≠ a → h.get? b = some o → h'.get? b = some o := fun b o hb e => (hs.2 b hb).trans e
  refine { S with
    sits := ⟨fun b o e => e1 b o (fun q => by rw [q, hg] at e; cases e) (S.sits.vw b o e), fun p hp => ?_, S.sits.off, S.sits.nd⟩
    loc := let ⟨m', x, y⟩ := S.loc; ⟨m', x.sameBut hs (fun q => hf (by rw [← q]; exact .head _)), y⟩
    fr := FunFrames.upto (fun b hb o e => ⟨o.slots, e1 b o (fun q => hf (by rw [← q]; exact .tail _ hb)) e⟩) S.fr
    keep := ⟨fun b o e => ?_, fun b o e hb => ?_⟩
    pins := fun p hp => let ⟨x, y⟩ := S.pins p hp; ⟨x.sameBut hs (fun q => hf (by rw [← q]; exact .tail _ y.1)), y⟩ }
  · obtain ⟨o, e, q⟩ := S.sits.ld p hp
    exact ⟨o, e1 _ o (fun z => hn (z ▸ List.mem_map.mpr ⟨p, hp, rfl⟩)) e, q⟩
  · obtain ⟨o1, q1⟩ := S.keep.1 b o e
    by_cases q : b = a
    · cases z : h'.get? a with
      | none => exact absurd z hp
      | some o2 => exact ⟨o2, q ▸ z⟩
    · exact ⟨o1, e1 b o1 q q1⟩
  · have hne : b ≠ a := fun q => by rw [q, hlo] at e; cases e
    obtain ⟨a1, sl, a2⟩ := S.keep.2 b o e hb
    exact ⟨fun hf => e1 b o hne (a1 hf), sl, e1 b _ hne a2⟩

theorem SigAt.keep {fs lo x tb h h'} (X : SigAt fs lo g n x tb h) (k : ∀ b o, b ∉ fs → h.get? b = some o → h'.get? b = some o) : SigAt fs lo g n x tb h' := by
  obtain ⟨x1, x2, x3, x4, oe, vs, d, od, y1, y2, y3, y4, y5, y6, z⟩ := X
  refine ⟨x1, x2, x3, x4, oe, vs, d, od, k x oe x2 y1, y2, y3, y4, y5, y6, ?_⟩
  cases tb with
  | none => exact z
  | some fl =>
    obtain ⟨T, oT, ts, z1, z2, z3, z4, z5, z6, z7, z8, z9⟩ := z
    exact ⟨T, oT, ts, z1, z2, z3, z4, z5, z6, k T oT z3 z7, z8, z9⟩

theorem fs_in {S : Prop} : S → S := id
theorem newEntry_sig {s : Shared} {x : Addr} {tb : Option Value} {head : Value} {hadNext : Bool} {Q : Unit → Shared → Prop} {E : Value → Shared → Prop} (S : St c m g n s.heap) (X : SigAt (c.L :: c.fs) c.h0 g n x tb s.heap)
    (hQ : ∀ h', St c m g n h' → SigAt (c.L :: c.fs) c.h0 g n x (some (rawInt c.fa)) h' → Q () { s with heap := h' })
    (hdf : c.comp = false) : wpAny (model PR c.w) c.A (do let a ← frameOf c.env; let pl ← entryPlaceOf c.fa hadNext; let b ← EntryCells.newEntry head a .none (rawInt c.fa) .none pl; setField (.ref x) 1 b) Q E s := by
  have hA := S.hA
  have hF := S.frames
  rw [Cx.stk_def hdf] at hA hF
  refine wpAny_bind (wpAny_frameOf_fun hA hF rfl fun h₁ hs₁ => ?_)
  have hfs : (c.env :: c.outer).filterMap (·.frame) = c.L :: c.fs := by show c.fa :: c.fs = _; rw [S.hdef hdf]
  rw [hfs] at hs₁
  have S₁ := S.upto (Slots.keep hs₁ [])
  have X₁ := X.keep (h' := h₁) fun b o hb e => (hs₁.2.1 b hb).trans e
  refine wpAny_bind (wpAny_entryPlaceOf fun pl hpl => ?_)
  unfold EntryCells.newEntry newFields
  refine wpAny_bind (wpAny_newObj_type ?_ (hpl.sizeOk5 _ _ _ _ _))
  obtain ⟨x1, x2, x3, x4, oe, vs, d, od, y1, y2, y3, y4, y5, y6, z⟩ := X₁
  have hsz : 1 < vs.size := by
    cases tb with
    | none => exact (Array.getElem?_eq_some_iff.mp z).1
    | some fl => obtain ⟨_, _, _, z1, _⟩ := z; exact (Array.getElem?_eq_some_iff.mp z1).1
  let tO : Obj := { cls := .type "traceback", dict := none, data := .fields ([head, .ref c.fa, .none, rawInt c.fa, .none] ++ (if pl.isEmpty then List.replicate 6 Value.none else pl)).toArray }
  have he₂ := Heap.get?_push_of_some (h := h₁) tO y1
  refine wpAny_setField he₂ y4 hsz (hQ _ ?_ ?_)
  · exact (S₁.push tO).other (Heap.SameBut.update _ _ _) x1 x3 x2 x4 (by rw [Heap.get?_update_self (Obj.mapFields (·.setIfInBounds 1 (Value.ref h₁.objs.size))) he₂ (Obj.isFreed_of_fields (Obj.data_mapFields y4 _))]; simp)
  · have hTe : h₁.objs.size ≠ x := Nat.ne_of_gt (Heap.lt_size y1)
    have hfr := Heap.get?_fresh h₁
    have hd₃ := Obj.data_mapFields y4 (·.setIfInBounds 1 (Value.ref h₁.objs.size))
    refine ⟨x1, x2, x3, x4, _, _, d, od, Heap.get?_update_self (Obj.mapFields (·.setIfInBounds 1 (Value.ref h₁.objs.size))) he₂ (Obj.isFreed_of_fields hd₃), (Obj.cls_mapFields _ _).trans y2, ?_, hd₃, y5, y6, h₁.objs.size, tO, _, by simp [hsz], S₁.notin_g hfr, ?_, S₁.notin_n hfr, S₁.keep.old hfr, hTe, ?_, rfl, ?_⟩
    · obtain ⟨oc, odi, oda, osl⟩ := oe
      dsimp only at y3 y4
      subst y3 y4
      rfl
    · simp only [List.mem_cons, not_or]; exact ⟨S₁.ne_L hfr, S₁.notin_fs hfr⟩
    · exact (Heap.get?_update_other _ _ (Ne.symm hTe)).trans (Heap.get?_push_size h₁ rfl)
    · show ([head, Value.ref c.fa, Value.none, rawInt c.fa, Value.none] ++ (if pl.isEmpty then List.replicate 6 Value.none else pl)).toArray[3]? = _
      simp
theorem note_sig {s : Shared} {x : Addr} {Q : Unit → Shared → Prop} {E : Value → Shared → Prop} (hdf : c.comp = false) (S : St c m g n s.heap) (X : Sig c g n x s.heap)
    (hQ : ∀ h', St c m g n h' → SigAt (c.L :: c.fs) c.h0 g n x (some (rawInt c.fa)) h' → Q () { s with heap := h' }) :
    wpAny (model PR c.w) c.A (noteFrame (.ref x) c.env) Q E s := by
  obtain ⟨tb, htb, X⟩ := X
  have X' := X
  obtain ⟨x1, x2, x3, x4, oe, vs, d, od, y1, y2, y3, y4, y5, y6, z⟩ := X'
  unfold noteFrame
  show wpAny _ _ (field (.ref x) 1 >>= _) _ _ _
  rcases htb with rfl | rfl | rfl
  · refine wpAny_bind (wpAny_field y1 y4 z ?_)
    rw [if_neg (by decide)]
    exact newEntry_sig S X hQ hdf
  · obtain ⟨T, oT, ts, z1, z2, z3, z4, z5, z6, z7, z8, z9⟩ := z
    refine wpAny_bind (wpAny_field y1 y4 z1 ?_)
    rw [if_pos (show (Value.ref T != Value.none) = true from by simp)]
    refine wpAny_bind (wpAny_field z7 z8 z9 ?_)
    rw [if_neg (show ¬ ((Value.none == rawInt c.fa) = true) from by simp [rawInt])]
    refine wpAny_bind (wpAny_setField z7 z8 (Array.getElem?_eq_some_iff.mp z9).1 ?_)
    have hs := Heap.SameBut.update s.heap T (Obj.mapFields (·.setIfInBounds 3 Value.none))
    refine newEntry_sig (s := { s with heap := s.heap.update T (Obj.mapFields (·.setIfInBounds 3 Value.none)) }) (tb := some .none) (S.other hs z2 z4 z3 z5 (by rw [Heap.get?_update_self _ z7 (Obj.isFreed_of_fields (Obj.data_mapFields z8 _))]; simp)) ?_ hQ hdf
    have hd := Obj.data_mapFields z8 (·.setIfInBounds 3 Value.none)
    exact ⟨x1, x2, x3, x4, oe, vs, d, od, (hs.2 x (Ne.symm z6)).trans y1, y2, y3, y4, y5, y6, T, _, _, z1, z2, z3, z4, z5, z6, Heap.get?_update_self _ z7 (Obj.isFreed_of_fields hd), hd, by simp [(Array.getElem?_eq_some_iff.mp z9).1]⟩
  · obtain ⟨T, oT, ts, z1, z2, z3, z4, z5, z6, z7, z8, z9⟩ := z
    refine wpAny_bind (wpAny_field y1 y4 z1 ?_)
    rw [if_pos (show (Value.ref T != Value.none) = true from by simp)]
    refine wpAny_bind (wpAny_field z7 z8 z9 ?_)
    rw [if_pos (show (rawInt c.fa == rawInt c.fa) = true from by simp)]
    exact wpAny_pure (hQ s.heap S X)
theorem flight_sig {A : Around} {s : Shared} {x : Addr} {fl : Value} {fr : Option Addr} {Q : Unit → Shared → Prop} {E : Value → Shared → Prop} (S : St c m g n s.heap) (X : SigAt (c.L :: c.fs) c.h0 g n x (some fl) s.heap)
    (hQ : ∀ h', St c m g n h' → SigAt (c.L :: c.fs) c.h0 g n x (some (fr.elim .none fun f => rawInt f)) h' → Q () { s with heap := h' }) :
    wpAny (model PR c.w) A (setFlight (.ref x) fr) Q E s := by
  obtain ⟨x1, x2, x3, x4, oe, vs, d, od, y1, y2, y3, y4, y5, y6, T, oT, ts, z1, z2, z3, z4, z5, z6, z7, z8, z9⟩ := X
  unfold setFlight
  refine wpAny_bind (wpAny_field y1 y4 z1 ?_)
  rw [if_pos (show (Value.ref T != Value.none) = true from by simp)]
  have hs := Heap.SameBut.update s.heap T (Obj.mapFields (·.setIfInBounds 3 (fr.elim Value.none fun f => rawInt f)))
  have hd := Obj.data_mapFields z8 (·.setIfInBounds 3 (fr.elim Value.none fun f => rawInt f))
  exact wpAny_setField z7 z8 (Array.getElem?_eq_some_iff.mp z9).1 (hQ _ (S.other hs z2 z4 z3 z5 (by rw [Heap.get?_update_self _ z7 (Obj.isFreed_of_fields hd)]; simp)) ⟨x1, x2, x3, x4, oe, vs, d, od, (hs.2 x (Ne.symm z6)).trans y1, y2, y3, y4, y5, y6, T, _, _, z1, z2, z3, z4, z5, z6, Heap.get?_update_self _ z7 (Obj.isFreed_of_fields hd), hd, by simp [(Array.getElem?_eq_some_iff.mp z9).1]⟩)
theorem leaving_sig {s : Shared} {x : Addr} {Q : Unit → Shared → Prop} {E : Value → Shared → Prop} (hdf : c.comp = false) (S : St c m g n s.heap) (X : Sig c g n x s.heap)
    (hQ : ∀ h', St c m g n h' → SigAt (c.L :: c.fs) c.h0 g n x (some .none) h' → Q () { s with heap := h' }) :
    wpAny (model PR c.w) c.A (leaving c.env (.ref x)) Q E s := by
  unfold leaving
  exact wpAny_bind (note_sig hdf S X fun h' S' X' => flight_sig (s := { s with heap := h' }) (fr := none) S' X' hQ)
theorem SigAt.tb {fs lo x fl h} (X : SigAt fs lo g n x (some fl) h) : ∃ oe vs T, h.get? x = some oe ∧ oe.data = .fields vs ∧ vs[1]? = some (.ref T) := by
  obtain ⟨_, _, _, _, oe, vs, _, _, y1, _, _, y4, _, _, T, _, _, z1, _⟩ := X
  exact ⟨oe, vs, T, y1, y4, z1⟩
theorem noted_sig {s : Shared} {x : Addr} {E : Value → Shared → Prop} (hdf : c.comp = false) (S : St c m g n s.heap) (X : Sig c g n x s.heap)
    (hE : ∀ h', St c m g n h' → Sig c g n x h' → E (.ref x) { s with heap := h' }) :
    notedBy (model PR c.w) c.A c.env (cameBackBy (model PR c.w) c.A c.env E) (.ref x) s := by
  refine note_sig hdf S X fun h' S' X' => ?_
  unfold cameBackBy
  obtain ⟨oe, vs, T, y1, y4, z1⟩ := X'.tb
  refine wpAny_bind (wpAny_field y1 y4 z1 ?_)
  rw [if_neg (by simp)]
  exact flight_sig (s := { s with heap := h' }) (fr := some c.fa) S' X' fun h'' S'' X'' => hE h'' S'' ⟨_, .inr (.inr rfl), X''⟩

end Mine

namespace Mine
variable {c : Cx} {m : Loc} {g : View} {n : Led} {Φ : Post} {Ψ : XPost}

theorem St.after {h h' : Heap} {pre nc post n' : Led} {g' : View} (S : St c m g (pre ++ nc ++ post) h) (E : Ends c.stk g nc h g' n' h') : St c m g' (pre ++ n' ++ post) h' := by
  have K := E.keep.mono S.stk_sub
  have nd := S.sits.nd
  simp only [addrs, List.map_append] at nd
  have ndl := List.nodup_append.mp nd
  have ndp := List.nodup_append.mp ndl.1
  have hin : ∀ p, p ∈ pre ∨ p ∈ post → p ∈ pre ++ nc ++ post := fun p hp => by rcases hp with hp | hp <;> simp [hp]
  have hin' : ∀ a, a ∈ addrs pre ∨ a ∈ addrs post → a ∈ addrs (pre ++ nc ++ post) := fun a ha => by simp only [addrs, List.map_append, List.mem_append]; rcases ha with ha | ha <;> simp [ha]
  have offc : ∀ a, a ∈ addrs pre ∨ a ∈ addrs post → a ∉ addrs nc := fun a ha hc => by
    rcases ha with ha | ha
    · exact ndp.2.2 a ha a hc rfl
    · exact ndl.2.2 a (List.mem_append_right _ hc) a ha rfl
  have pres : ∀ a, a ∈ addrs pre ∨ a ∈ addrs post → ∃ o, h.get? a = some o := fun a ha => by
    obtain ⟨p, hp, rfl⟩ := List.mem_map.mp (hin' a ha)
    obtain ⟨o, e, _⟩ := S.sits.ld p hp
    exact ⟨o, e⟩
  have newg : ∀ a o, g' a = some o → (∃ o', h.get? a = some o') → g a = some o := fun a o e ⟨o', q⟩ => (E.new a o e).elim id fun z => by rw [q] at z; cases z
  have split' : ∀ a, a ∈ addrs (pre ++ n' ++ post) → (a ∈ addrs pre ∨ a ∈ addrs post) ∨ a ∈ addrs n' := fun a ha => by
    simp only [addrs, List.map_append, List.mem_append] at ha ⊢
    rcases ha with (ha | ha) | ha <;> simp [ha]
  have Lp : ∃ o, h.get? c.L = some o := by obtain ⟨m', ⟨o, _, _, q, _⟩, _⟩ := S.loc; exact ⟨o, q⟩
  have fp : ∀ a ∈ c.fs, ∃ o, h.get? a = some o := fun a ha => let ⟨_, o, q, _⟩ := S.fr.mem ha; ⟨o, q⟩
  have Lnc : c.L ∉ addrs nc := fun q => S.Ln (by simp only [addrs, List.map_append, List.mem_append]; simp [q])
  have fnc : ∀ a ∈ c.fs, a ∉ addrs nc := fun a ha q => S.fn a ha (by simp only [addrs, List.map_append, List.mem_append]; simp [q])
  have n'new : ∀ a ∈ addrs n', (∃ o, h.get? a = some o) → a ∈ addrs nc := fun a ha ⟨o, q⟩ => (E.nnew a ha).elim id fun z => by rw [q] at z; cases z
  refine { S with
    base := fun a o e => E.le a o (S.base a o e)
    g0 := S.g0.trans E.le
    sits := ⟨E.sits.vw, fun p hp => ?_, fun a ha => ?_, ?_⟩
    loc := let ⟨m', x, y⟩ := S.loc; ⟨m', Ns.slots x fun o e => (K.2 _ o e Lnc).2, y⟩
    Lg := ?_
    Ln := fun q => ?_
    fr := FunFrames.upto (fun b hb o e => (K.2 b o e (fnc b hb)).2) S.fr
    fg := fun a ha => ?_
    fn := fun a ha q => ?_
    keep := ⟨fun b o e => let ⟨o', e'⟩ := S.keep.1 b o e; K.1 b o' e', fun b o e hb => ?_⟩
    new := fun a o e => ?_
    nnew := fun a ha => ?_
    pins := fun p hp => let ⟨x, y⟩ := S.pins p hp; ⟨Ns.slots x fun o e => (K.2 _ o e (fnc _ y.1)).2, y⟩ }
  · rcases List.mem_append.mp hp with hp | hp
    · rcases List.mem_append.mp hp with hp | hp
      · have hm : p.1 ∈ addrs pre := List.mem_map.mpr ⟨p, hp, rfl⟩
        obtain ⟨o, e, q⟩ := S.sits.ld p (hin p (.inl hp))
        have hm' := hin' _ (.inl hm)
        exact ⟨o, (K.2 _ o e (offc _ (.inl hm))).1 (by simp only [List.mem_cons, not_or]; exact ⟨fun z => S.Ln (z ▸ hm'), fun z => S.fn _ z hm'⟩), q⟩
      · exact E.sits.ld p hp
    · have hm : p.1 ∈ addrs post := List.mem_map.mpr ⟨p, hp, rfl⟩
      obtain ⟨o, e, q⟩ := S.sits.ld p (hin p (.inr hp))
      have hm' := hin' _ (.inr hm)
      exact ⟨o, (K.2 _ o e (offc _ (.inr hm))).1 (by simp only [List.mem_cons, not_or]; exact ⟨fun z => S.Ln (z ▸ hm'), fun z => S.fn _ z hm'⟩), q⟩
  · rcases split' a ha with ha | ha
    · cases q : g' a with
      | none => rfl
      | some o => have := newg a o q (pres a ha); rw [S.sits.off a (hin' a ha)] at this; cases this
    · exact E.sits.off a ha
  · simp only [addrs, List.map_append]
    refine List.nodup_append.mpr ⟨List.nodup_append.mpr ⟨ndp.1, E.sits.nd, fun a ha b hb e => ?_⟩, ndl.2.1, fun a ha b hb e => ?_⟩
    · subst e; exact offc a (.inl ha) (n'new a hb (pres a (.inl ha)))
    · subst e
      rcases List.mem_append.mp ha with ha | ha
      · exact ndl.2.2 a (List.mem_append_left _ ha) a hb rfl
      · exact offc a (.inr hb) (n'new a ha (pres a (.inr hb)))
  · cases q : g' c.L with
    | none => rfl
    | some o => have := newg _ o q Lp; rw [S.Lg] at this; cases this
  · rcases split' _ q with q | q
    · exact S.Ln (hin' _ q)
    · exact Lnc (n'new _ q Lp)
  · cases q : g' a with
    | none => rfl
    | some o => have := newg _ o q (fp a ha); rw [S.fg a ha] at this; cases this
  · rcases split' _ q with q | q
    · exact S.fn a ha (hin' _ q)
    · exact fnc a ha (n'new _ q (fp a ha))
  · have bL : b ≠ c.L := fun q => by rw [q, S.Lnew] at e; cases e
    have bnc : b ∉ addrs nc := fun q => by
      rcases S.nnew b (by simp only [addrs, List.map_append, List.mem_append]; simp [q]) with z | z
      · exact hb z
      · rw [e] at z; cases z
    obtain ⟨a1, sl, a2⟩ := S.keep.2 b o e hb
    refine ⟨fun hf => (K.2 b o (a1 hf) bnc).1 (by simp [bL, hf]), ?_⟩
    obtain ⟨sl', a3⟩ := (K.2 b _ a2 bnc).2
    exact ⟨sl', a3⟩
  · rcases E.new a o e with z | z
    · exact S.new a o z
    · exact .inr (S.keep.old z)
  · rcases split' a ha with ha | ha
    · exact S.nnew a (hin' a ha)
    · rcases E.nnew a ha with z | z
      · exact S.nnew a (by simp only [addrs, List.map_append, List.mem_append]; simp [z])
      · exact .inr (S.keep.old z)

def AX (c : Cx) (m : Loc) (g : View) (n : Led) (pos : Pos) (es : List Expr) (P : List Value → View → Led → Prop) (Ψ : XPost) : Prop :=
  DO c m g n (spliced (backTo pos (starEach es c.env))) (fun vs' g' n' => ∃ vs, AllIs vs vs' ∧ P vs g' n') Ψ
def CA (c : Cx) (m : Loc) (g : View) (n : Led) (f : Value) (vs : List Value) (Φ : Post) (Ψ : XPost) : Prop := ∀ vs', AllIs vs vs' → DO c m g n (call f vs') (Vp Φ) Ψ
abbrev kC (v : Value) (P : List Value → View → Led → Prop) : List Value → View → Led → Prop := fun vs g n => P (v :: vs) g n
abbrev kAX (c : Cx) (m : Loc) (pos : Pos) (es : List Expr) (P : List Value → View → Led → Prop) (Ψ : XPost) : Post := fun v g n => AX c m g n pos es (kC v P) Ψ
abbrev kCA (c : Cx) (m : Loc) (f : Value) (Φ : Post) (Ψ : XPost) : List Value → View → Led → Prop := fun vs g n => CA c m g n f vs Φ Ψ
theorem AX.nil {pos : Pos} {P : List Value → View → Led → Prop} (h : P [] g n) : AX c m g n pos [] P Ψ := fun s Q E S hQ _ => args_nil (hQ [] g n s.heap s.toks ⟨[], .nil, h⟩ (Le.rfl' g) S)
theorem AX.cons {pos : Pos} {e : Expr} {es : List Expr} {P : List Value → View → Led → Prop} (h : EX c m g n e (kAX c m pos es P Ψ) Ψ)
    (he : starEach (e :: es) c.env = (false, eval e c.env) :: starEach es c.env := by rfl) : AX c m g n pos (e :: es) P Ψ := fun s Q E S hQ hE => by
  refine args_cons (h s _ E S (fun a g1 n1 h1 tk z le S1 => ?_) hE) he
  obtain ⟨v, hv, k⟩ := z
  exact k { s with heap := h1, toks := tk } _ E S1 (fun vs' g2 n2 h2 tk2 z le2 S2 => hQ (a :: vs') g2 n2 h2 tk2 (let ⟨vs, q, p⟩ := z; ⟨v :: vs, .cons hv q, p⟩) (le.trans le2) S2) fun x g' n' h' tk' z le' S' Sg => hE x g' n' h' tk' z (le.trans le') S' Sg

theorem EX.callK {x : Str} {np pos : Pos} {e : Expr} {es : List Expr} {f : Addr} (hx : c.sc.names.lookup x = some .globalImplicit) (hg : nsIn (KK c.w) mainGlobals x = some (some (.ref f))) (hk : keepIn (KK c.w) (.ref f) = true) (hd : (x == ("__debug__" : Str)) = false)
    (h : AX c m g n pos (e :: es) (kCA c m (.ref f) Φ Ψ) Ψ)
    (he : starEach (e :: es) c.env = (false, eval e c.env) :: starEach es c.env := by rfl) (hplain : (backTo pos (starEach es c.env)).any (·.1) = false := by rfl)
    (hc : eval (.Call (.Name x np) (e :: es) [] pos) c.env = (do callWith pos (← eval (.Name x np) c.env) [] (backTo pos (starEach (e :: es) c.env)) (backToKw pos (keywordEach [] c.env))) := by rfl) :
    EX c m g n (.Call (.Name x np) (e :: es) [] pos) Φ Ψ := fun s Q E S hQ hE => by
  refine Call_ ?_ hc
  refine S.G.elim fun p loose mean mg mb T => ?_
  refine Name_function_global (env := c.env) S.hk hx (loadGlobal_global (env := c.env) (T.g.keeps S.stays) (mg_of S.G.K T.g hg) ?_) hd
  refine callWith_K (K := KK c.w) (h₀ := c.h₀) (first := []) S.G.K hk ?_ he hplain
  refine h s _ E S (fun vs' g1 n1 h1 tk z le S1 => ?_) hE
  obtain ⟨vs, hv, k⟩ := z
  exact ⟨S1.K, k vs' hv { s with heap := h1, toks := tk } Q E S1 (fun a' g' n' h' tk' z le' S' => hQ a' g' n' h' tk' z (le.trans le') S') fun x g' n' h' tk' z le' S' Sg => hE x g' n' h' tk' z (le.trans le') S' Sg⟩
theorem EX.callB {x : Str} {np pos : Pos} {e : Expr} {es : List Expr} {id : String} (hx : c.sc.names.lookup x = some .globalImplicit) (hg : nsIn (KK c.w) mainGlobals x = some none) (hb : bootBuiltins x = some (.builtin id)) (hn : x ≠ "__name__") (hd : (x == ("__debug__" : Str)) = false)
    (h : AX c m g n pos (e :: es) (kCA c m (.builtin id) Φ Ψ) Ψ)
    (he : starEach (e :: es) c.env = (false, eval e c.env) :: starEach es c.env := by rfl) (hplain : (backTo pos (starEach es c.env)).any (·.1) = false := by rfl)
    (hc : eval (.Call (.Name x np) (e :: es) [] pos) c.env = (do callWith pos (← eval (.Name x np) c.env) [] (backTo pos (starEach (e :: es) c.env)) (backToKw pos (keywordEach [] c.env))) := by rfl) :
    EX c m g n (.Call (.Name x np) (e :: es) [] pos) Φ Ψ := fun s Q E S hQ hE => by
  refine Call_ ?_ hc
  refine S.G.elim fun p loose mean mg mb T => ?_
  refine Name_function_global (env := c.env) S.hk hx (loadGlobal_builtin (env := c.env) (T.g.keeps S.stays) (mg_none_of S.G.K T.g hg) (T.b.keeps S.stays) ((T.builtins x hn).trans hb) ?_) hd
  refine callWith_builtin1 ?_ he hplain
  refine h s _ E S (fun vs' g1 n1 h1 tk z le S1 => ?_) hE
  obtain ⟨vs, hv, k⟩ := z
  exact k vs' hv { s with heap := h1, toks := tk } Q E S1 (fun a' g' n' h' tk' z le' S' => hQ a' g' n' h' tk' z (le.trans le') S') fun x g' n' h' tk' z le' S' Sg => hE x g' n' h' tk' z (le.trans le') S' Sg

theorem Room.le {A : Around} {k k' : Nat} (h : Room A k) (hk : k' ≤ k) : Room A k' := ⟨by have := h.1; omega, by have := h.2; omega⟩
theorem Sits.part {pre nc post : Led} {h : Heap} (S : Sits g (pre ++ nc ++ post) h) : Sits g nc h := by
  have nd := S.nd
  simp only [addrs, List.map_append] at nd
  exact ⟨S.vw, fun p hp => S.ld p (by simp [hp]), fun a ha => S.off a (by simp only [addrs, List.map_append, List.mem_append]; simp [ha]), (List.nodup_append.mp (List.nodup_append.mp nd).1).2.1⟩
theorem useFn {A' : Around} {f : Value} {vs vs' : List Value} {k : Nat} {Φ' : Post} {Ψ' : XPost} {pre nc post : Led} {s : Shared} {R : Result → Shared → Prop} (hA' : A'.frames = some c.stk) (hh' : A'.handled = none) (hr : Room A' k)
    (F : FN c.w c.h₀ f vs g nc k Φ' Ψ') (S : St c m g (pre ++ nc ++ post) s.heap) (hv : AllIs vs vs')
    (hQ : ∀ v v' g' n' h' tk, Φ' v g' n' → Is v v' → Le g g' → (∀ a ∈ addrs n', a ∈ addrs nc ∨ c.h0.get? a = none) → St c m g' (pre ++ n' ++ post) h' → R (.ok (.ret v')) { s with heap := h', toks := tk })
    (hE : ∀ x g' n' h' tk, Ψ' g' n' → Le g g' → St c m g' (pre ++ n' ++ post) h' → Sig c g' (pre ++ n' ++ post) x h' → R (.error (.ref x)) { s with heap := h', toks := tk }) :
    codeAny (model PR c.w) A' (.call f ⟨vs', []⟩) R s := by
  refine F A' c.stk s _ vs' S.G S.base hh' hA' hr S.sits.part S.frames (fun a ha => ?_) hv (fun v v' g' n' h' tk z hv' En => ?_) fun x g' n' h' tk z En X => ?_
  · rcases List.mem_cons.mp (S.stk_sub a ha) with rfl | ha
    · exact ⟨S.Lg, fun q => S.Ln (by simp only [addrs, List.map_append, List.mem_append]; simp [q])⟩
    · exact ⟨S.fg a ha, fun q => S.fn a ha (by simp only [addrs, List.map_append, List.mem_append]; simp [q])⟩
  · exact hQ v v' g' _ h' tk z hv' En.le (fun a ha => (En.nnew a ha).imp id S.keep.old) (S.after En)
  · refine hE x g' _ h' tk z En.le (S.after En) ⟨some .none, .inr (.inl rfl), ?_⟩
    have old : ∀ a, s.heap.get? a = none → a ∉ addrs n' → a ∉ addrs (pre ++ n' ++ post) := fun a ha hn hm => by
      simp only [addrs, List.map_append, List.mem_append] at hm
      have lt : a ∈ addrs (pre ++ nc ++ post) → False := fun hm => by
        obtain ⟨p, hp, rfl⟩ := List.mem_map.mp hm
        obtain ⟨o, q, _⟩ := S.sits.ld p hp
        rw [ha] at q; cases q
      rcases hm with (hm | hm) | hm
      · exact lt (by simp only [addrs, List.map_append, List.mem_append]; exact .inl (.inl hm))
      · exact hn hm
      · exact lt (by simp only [addrs, List.map_append, List.mem_append]; exact .inr hm)
    have offs : ∀ a, s.heap.get? a = none → a ∉ c.L :: c.fs := fun a ha q => (List.mem_cons.mp q).elim (fun q => S.ne_L ha q) (fun q => S.notin_fs ha q)
    exact X.mv fun a h1 _ h3 => ⟨offs a h1, old a h1 h3, S.keep.old h1⟩
theorem CA.fnP {f : Value} {vs : List Value} {k : Nat} {Φ' : Post} {Ψ' : XPost} {pre nc post : Led} (F : FN c.w c.h₀ f vs g nc k Φ' Ψ') (hk : k ≤ c.k)
    (hΦ : ∀ v g' n', Le g g' → (∀ a ∈ addrs n', a ∈ addrs nc ∨ c.h0.get? a = none) → Φ' v g' n' → Φ v g' (pre ++ n' ++ post)) (hΨ : ∀ g' n', Le g g' → Ψ' g' n' → Ψ g' (pre ++ n' ++ post)) : CA c m g (pre ++ nc ++ post) f vs Φ Ψ := fun vs' hv s Q E S hQ hE => by
  exact wpAny_call (useFn S.hA S.hh (S.room.le hk) F S hv (fun v v' g' n' h' tk z hv' le fr S' => hQ v' g' _ h' tk ⟨v, hv', hΦ v g' n' le fr z⟩ le S') fun x g' n' h' tk z le S' X => hE x g' _ h' tk (hΨ g' n' le z) le S' X)
theorem CA.fn {f : Value} {vs : List Value} {k : Nat} {Φ' : Post} {Ψ' : XPost} (F : FN c.w c.h₀ f vs g [] k Φ' Ψ') (hk : k ≤ c.k)
    (hΦ : ∀ v g' n', Le g g' → (∀ a ∈ addrs n', c.h0.get? a = none) → Φ' v g' n' → Φ v g' (n' ++ n)) (hΨ : ∀ g' n', Le g g' → Ψ' g' n' → Ψ g' (n' ++ n)) : CA c m g n f vs Φ Ψ :=
  CA.fnP (pre := []) (nc := []) (post := n) F hk (fun v g' n' le fr z => hΦ v g' n' le (fun a ha => (fr a ha).elim (fun q => by cases q) id) z) hΨ

theorem bindsAt {ps : List Str} {vs vs' : List Value} (h : AllIs vs vs') (nd : ps.Nodup) : ∀ x v, (x, some v) ∈ (ps.zip vs).map (fun p => (p.1, some p.2)) → ∃ v', (ps.zip vs').reverse.lookup x = some v' ∧ Is v v' := by
  have look : ∀ (ps : List Str) (vs vs' : List Value), AllIs vs vs' → ps.Nodup → ∀ x v, (x, v) ∈ ps.zip vs → ∃ v', (x, v') ∈ ps.zip vs' ∧ Is v v' := by
    intro ps vs vs' h
    induction h generalizing ps with
    | nil => intro _ x v hm; simp at hm
    | cons h0 _ ih =>
      intro nd x v hm
      cases ps with
      | nil => simp at hm
      | cons p ps =>
        rw [List.zip_cons_cons] at hm ⊢
        rcases List.mem_cons.mp hm with e | hm
        · cases e; exact ⟨_, .head _, h0⟩
        · obtain ⟨v', a, b⟩ := ih ps (List.nodup_cons.mp nd).2 x v hm
          exact ⟨v', .tail _ a, b⟩
  have uniq : ∀ (l : List (Str × Value)), (l.map (·.1)).Nodup → ∀ x v, (x, v) ∈ l → l.reverse.lookup x = some v := by
    intro l
    induction l with
    | nil => intro _ x v hm; simp at hm
    | cons p l ih =>
      intro nd x v hm
      have nd' := List.nodup_cons.mp nd
      rw [List.reverse_cons, List.lookup_append]
      rcases List.mem_cons.mp hm with e | hm
      · subst e
        have : l.reverse.lookup x = none := by
          rw [List.lookup_eq_none_iff]
          intro q hq
          have : q.1 ≠ x := fun e => nd'.1 (by rw [← e]; exact List.mem_map.mpr ⟨q, List.mem_reverse.mp hq, rfl⟩)
          simpa using fun e => this e.symm
        rw [this]; simp [List.lookup_cons]
      · rw [ih nd'.2 x v hm]; rfl
  intro x v hm
  obtain ⟨p, hp, e⟩ := List.mem_map.mp hm
  cases e
  obtain ⟨v', a, b⟩ := look ps vs vs' h nd p.1 p.2 hp
  refine ⟨v', uniq _ ?_ _ _ a, b⟩
  have : ∀ (ps : List Str) (vs : List Value), ps.Nodup → ((ps.zip vs).map (·.1)).Nodup := by
    intro ps
    induction ps with
    | nil => intro vs _; simp
    | cons p ps ih =>
      intro vs nd
      cases vs with
      | nil => simp
      | cons v vs =>
        have nd := List.nodup_cons.mp nd
        rw [List.zip_cons_cons, List.map_cons]
        refine List.nodup_cons.mpr ⟨fun q => nd.1 ?_, ih vs nd.2⟩
        obtain ⟨r, hr, e⟩ := List.mem_map.mp q
        have e' : r.1 = p := e
        exact e' ▸ (List.of_mem_zip hr).1
  exact this ps vs' nd

def Out (Φ : Post) : FPost := fun f _ g n => match f with | .ret v => Φ v g n | _ => Φ .none g n

theorem FN.of {w : World} {h₀ : Heap} {f : Addr} {name qual : Str} {params : Arguments} {body : List Stmt} {scope : Scope} {dV kV doc pm cdv ct oc : Value} {an od : Option Addr} {osl : Array (Option Value)} {args ds : List Value} {k : Nat} {ps rest : List Str}
    (ho : (KK w).lookup f = some ⟨oc, od, .func (fnOf name qual params body scope dV kV doc pm an cdv ct), osl⟩) (hcd : codeIn (KK w) cdv qual = true)
    (hbind : ∀ (s : Shared) (vs : List Value), (KK w).In s.heap → AllIs args vs → ∃ ds', AllIs ds ds' ∧ BindsTo s (fnOf name qual params body scope dV kV doc pm an cdv ct) ⟨vs, []⟩ (ps.zip (vs ++ ds')))
    (hl : args.length + ds.length = ps.length)
    (hnames : ((ps ++ rest).all fun x => scope.names.lookup x == some .local && !(x == ("__debug__" : Str))) = true) (hnd : (ps ++ rest).Nodup)
    (hcell : (scope.names.all fun x => !(x.2 == .cell)) = true) (hco : scope.isCoroutine = false) (hgen : scope.isGenerator = false) (hk : scope.kind = .function)
    (h : ∀ c : Cx, c.w = w → c.h₀ = h₀ → c.sc = scope → c.k = k → c.n0 = addrs n → c.comp = false → c.cl = [] → c.cd = cdv → c.nm = qual → G0 w h₀ → (∀ a o, h₀.get? a = some o → g a = some o) → 
      SX c (((ps.zip (args ++ ds)).map fun p => (p.1, some p.2)) ++ rest.map fun x => (x, none)) g n body (Out Φ) Ψ) :
    FN w h₀ (.ref f) args g n (k + 1) Φ Ψ := by
  intro A outer s R vs G hb hh hA hr hs hf hd hv hΦ hΨ
  have X : (KK w).In s.heap := fun a o e => hs.vw a o (hb a o (G.K a o e))
  refine G.elim fun p loose mean mg mb T => ?_
  have stays : ∀ b o, h₀.get? b = some o → s.heap.get? b = some o := fun b o e => hs.vw b o (hb b o e)
  obtain ⟨ds', hds, hbind⟩ := hbind s vs X hv
  have hall : ∀ x ∈ ps ++ rest, scope.names.lookup x = some .local ∧ (x == ("__debug__" : Str)) = false := fun x hx => by
    have := List.all_eq_true.mp hnames x hx
    simp only [Bool.and_eq_true, beq_iff_eq, Bool.not_eq_true'] at this
    exact this
  have hvs : AllIs (args ++ ds) (vs ++ ds') := hv.append hds
  refine codeAny_call_def (fd := fnOf name qual params body scope dV kV doc pm an cdv ct) (body := body) (binds := ps.zip (vs ++ ds')) (by have := hr.1; show A.depth < 1000; omega) (X _ _ ho) rfl ((T.nolimit).keeps stays) (codeRec_of X hcd) rfl hbind
    (fun x hx e => by have := List.all_eq_true.mp hcell x hx; rw [e] at this; exact absurd this (by decide)) (fun x hx => (hall x.1 (List.mem_append_left _ (List.of_mem_zip hx).1)).1) (fun h₁ hns hk₁ => ?_) hco hgen hk
  let c : Cx := { w := w, h₀ := h₀, nm := qual, sc := scope, L := s.heap.objs.size, fn := some f, fa := s.heap.objs.size, comp := false, cd := cdv, cl := [], A := A.deeper (envX qual scope s.heap.objs.size f cdv []), outer := outer, k := k, g0 := g, n0 := addrs n, h0 := s.heap, pin := [] }
  have m₀ : (((ps.zip (args ++ ds)).map fun p => (p.1, some p.2)) ++ rest.map fun x => (x, (none : Option Value))).map (·.1) = ps ++ rest := by
    rw [List.map_append, List.map_map, List.map_map]
    congr 1
    · have : ∀ (ps : List Str) (vs : List Value), ps.length = vs.length → (ps.zip vs).map ((fun x : Str × Option Value => x.1) ∘ fun p => (p.1, some p.2)) = ps := by
        intro ps
        induction ps with
        | nil => intro vs _; simp
        | cons p ps ih =>
          intro vs e
          cases vs with
          | nil => simp at e
          | cons v vs => rw [List.zip_cons_cons, List.map_cons, ih vs (by simpa using e)]; rfl
      exact this _ _ (by rw [List.length_append, hl])
    · rw [show ((fun x : Str × Option Value => x.1) ∘ fun x => (x, (none : Option Value))) = id from rfl, List.map_id]
  have Lfree : g s.heap.objs.size = none := by
    cases q : g s.heap.objs.size with
    | none => rfl
    | some o => exact absurd (Heap.lt_size (hs.vw _ _ q)) (Nat.lt_irrefl _)
  have nlt : ∀ a ∈ addrs n, a < s.heap.objs.size := fun a ha => by
    obtain ⟨p, hp, rfl⟩ := List.mem_map.mp ha
    obtain ⟨o, q, _⟩ := hs.ld p hp
    exact Heap.lt_size q
  have S : St c (((ps.zip (args ++ ds)).map fun p => (p.1, some p.2)) ++ rest.map fun x => (x, none)) g n h₁ :=
    { G := G, base := hb, hA := by show (A.deeper _).frames = _; exact Around.frames_deeper hA, hdef := fun _ => rfl, hh := hh, hk := hk
      room := ⟨by have := hr.1; show A.depth + 1 + k ≤ 700; omega, by have := hr.2; show A.units + 3 + 20 * k ≤ 5000; omega⟩
      g0 := Le.rfl' g
      sits := ⟨fun a o e => hk₁ a o (hs.vw a o e), fun p hp => let ⟨o, e, q⟩ := hs.ld p hp; ⟨o, hk₁ _ _ e, q⟩, hs.off, hs.nd⟩
      loc := ⟨_, hns, fun x v hm => by
        rcases List.mem_append.mp hm with hm | hm
        · exact bindsAt hvs (List.nodup_append.mp hnd).1 x v hm
        · obtain ⟨y, _, e⟩ := List.mem_map.mp hm
          cases e⟩
      mnd := m₀ ▸ hnd
      mloc := fun x hx => hall x (m₀ ▸ hx)
      Lg := Lfree
      Ln := fun q => Nat.lt_irrefl _ (nlt _ q)
      fr := FunFrames.grow hk₁ hf
      fg := fun a ha => (hd a ha).1
      fn := fun a ha => (hd a ha).2
      keep := Keep.of_all hk₁
      new := fun a o e => .inl e
      nnew := fun a ha => .inl ha
      Lnew := Heap.get?_fresh _
      pins := fun p hp => nomatch hp }
  have ends : ∀ m' g' n' h', Le g g' → St c m' g' n' h' → Ends outer g n s.heap g' n' h' := fun m' g' n' h' le S' => ⟨le, S'.sits, S'.keep, S'.new, S'.nnew⟩
  refine h c rfl rfl rfl rfl rfl rfl rfl rfl rfl G hb { s with heap := h₁, toks := s.toks + (ps.zip (vs ++ ds')).length } _ _ S (fun fl fl' m' g' n' h' tk z hf le S' => ?_) fun x m' g' n' h' tk z le S' X' => ?_
  · cases hf with
    | ret hv' => exact hΦ _ _ g' n' h' tk z hv' (ends m' g' n' h' le S')
    | next => exact hΦ .none .none g' n' h' tk z rfl (ends m' g' n' h' le S')
    | cont => exact hΦ .none .none g' n' h' tk z rfl (ends m' g' n' h' le S')
    | brk => exact hΦ .none .none g' n' h' tk z rfl (ends m' g' n' h' le S')
  · refine leaving_sig (c := c) rfl (s := { s with heap := h', toks := tk }) S' X' fun h'' S'' X'' => ?_
    refine hΨ x g' n' h'' tk z (ends m' g' n' h'' le S'') ?_
    exact X''.mv fun a h1 h2 h3 => ⟨fun q => h2 (.tail _ q), h3, h1⟩
end Mine

namespace Mine
variable {c : Cx} {m : Loc} {g : View} {n : Led} {Φ : Post} {Ψ : XPost} {F : FPost}

theorem Is.handed {u v : Value} (h : Is u v) : handedIn v = handedIn u := by
  cases u <;> first | (obtain ⟨_, rfl⟩ := h; rfl) | (cases h; rfl)
inductive Ents : List (Str × Value) → List DictEntry → Prop
  | nil : Ents [] []
  | cons {x : Str} {t : Tok} {h : Int} {u v : Value} {fs es} : Is u v → handedIn u = true → Ents fs es → Ents ((x, u) :: fs) (⟨h, .str x t, v⟩ :: es)
def DicO (fs : List (Str × Value)) (o : Obj) : Prop := ∃ es k, o = dictOf es k ∧ Ents fs es
def DicM (fs : List (Str × Value)) (o : Obj) : Prop :=
  ∃ es ep mA, o.data = .dict es ep ∧ StrKeys es ∧ UniqKeys es ∧ (∀ nm, nsFind es nm = mA nm) ∧ Within mA (fs.map (·.1)) ∧ ∀ x u, fs.lookup x = some u → ∃ v, mA x = some v ∧ Is u v ∧ handedIn u = true
theorem isStr_key {y x : Str} {t : Tok} : (Value.str y t).isStr x = (x == y) := by
  show (y == x) = (x == y)
  by_cases q : y = x
  · subst q; rfl
  · rw [beq_eq_false_iff_ne.mpr q, beq_eq_false_iff_ne.mpr (Ne.symm q)]
theorem nsFind_list {es : List DictEntry} {nm : Str} : nsFind es.toArray nm = (es.find? fun e => e.key.isStr nm).map (·.val) := by
  unfold nsFind findBy; rw [List.find?_toArray]
theorem Ents.names {fs es} (h : Ents fs es) : ∀ e ∈ es, ∃ x t, e.key = .str x t ∧ x ∈ fs.map (·.1) := by
  induction h with
  | nil => intro e he; cases he
  | cons h0 h1 _ ih =>
    intro e he
    rcases List.mem_cons.mp he with rfl | he
    · exact ⟨_, _, rfl, .head _⟩
    · obtain ⟨x, t, a, b⟩ := ih e he
      exact ⟨x, t, a, .tail _ b⟩
theorem Ents.get {fs es} (h : Ents fs es) {x : Str} {u : Value} (hl : fs.lookup x = some u) : ∃ v, nsFind es.toArray x = some v ∧ Is u v ∧ handedIn u = true := by
  induction h with
  | nil => cases hl
  | @cons y t hh u' v fs es h0 h1 _ ih =>
    rw [List.lookup_cons] at hl
    rw [nsFind_list] at ih ⊢
    rw [List.find?_cons]
    simp only [isStr_key]
    cases q : (x == y) with
    | true =>
      rw [q] at hl
      cases hl
      exact ⟨v, by simp, h0, h1⟩
    | false =>
      rw [q] at hl
      exact ih hl
theorem Ents.dic {fs es k} (h : Ents fs es) (nd : (fs.map (·.1)).Nodup) : DicM fs (dictOf es k) := by
  refine ⟨es.toArray, k, _, rfl, fun e he => ?_, ?_, fun nm => rfl, fun nm hn => ?_, fun x u hl => h.get hl⟩
  · obtain ⟨x, t, a, _⟩ := h.names e (by simpa using he)
    exact ⟨x, t, a⟩
  · unfold UniqKeys
    show List.Pairwise _ es
    clear k
    induction h with
    | nil => exact .nil
    | cons h0 h1 r ih =>
      have nd := List.nodup_cons.mp nd
      refine List.pairwise_cons.mpr ⟨fun b hb n h1 h2 => ?_, ih nd.2⟩
      obtain ⟨x, t, e, hx⟩ := r.names b hb
      rw [e, isStr_key, beq_iff_eq] at h2
      dsimp only at h1
      rw [isStr_key, beq_iff_eq] at h1
      exact nd.1 (by rw [← h1, h2]; exact hx)
  · rw [nsFind_list] at hn
    cases q : es.find? fun e => e.key.isStr nm with
    | none => rw [q] at hn; exact absurd rfl hn
    | some e =>
      obtain ⟨x, t, a, b⟩ := h.names e (List.mem_of_find?_eq_some q)
      have := List.find?_some q
      rw [a, isStr_key, beq_iff_eq] at this
      exact this ▸ b
theorem lookIn_of {o : Obj} {es : Array DictEntry} {ep : Nat} {nm : Str} {v : Value} (h : o.data = .dict es ep) (e : nsFind es nm = some v) : lookIn nm o = some (some v) := by
  unfold lookIn
  rw [h]
  dsimp only
  unfold nsFind findBy at e
  rw [← Array.find?_toList] at e
  cases q : es.toList.find? (fun e => e.key.isStr nm) with
  | none => rw [q] at e; cases e
  | some en => rw [q] at e; cases e; rfl
theorem DicM.get {fs o} (h : DicM fs o) {x : Str} {u : Value} (hl : fs.lookup x = some u) : ∃ v, lookIn x o = some (some v) ∧ Is u v ∧ handedIn v = true := by
  obtain ⟨es, ep, mA, hd, _, _, hf, _, hg⟩ := h
  obtain ⟨v, a, b, c⟩ := hg x u hl
  exact ⟨v, lookIn_of hd ((hf x).trans a), b, b.handed.trans c⟩
def InstL (g : View) (n : Led) (a C : Addr) (fs : List (Str × Value)) : Prop := ∃ d, g a = some (instObj C d) ∧ ((∃ o, g d = some o ∧ DicM fs o) ∨ (d, DicM fs) ∈ n)
theorem InstL.le {g g' : View} {n n' a C fs} (h : InstL g n a C fs) (k : Le g g') (kn : ∀ p ∈ n, p ∈ n') : InstL g' n' a C fs := by
  obtain ⟨d, e, q⟩ := h
  exact ⟨d, k _ _ e, q.imp (fun ⟨o, a, b⟩ => ⟨o, k _ _ a, b⟩) fun q => kn _ q⟩
theorem InstL.at {c m g n h a C fs} (S : St c m g n h) (x : InstL g n a C fs) : ∃ d o, InstAt h a (instObj C d) C (some o) ∧ DicM fs o := by
  obtain ⟨d, e, q⟩ := x
  obtain ⟨o, ho, hE⟩ : ∃ o, h.get? d = some o ∧ DicM fs o := by
    rcases q with ⟨o, q1, q2⟩ | q
    · exact ⟨o, S.sits.vw _ _ q1, q2⟩
    · obtain ⟨o, q1, q2⟩ := S.sits.ld _ q
      exact ⟨o, q1, q2⟩
  exact ⟨d, o, ⟨S.sits.vw _ _ e, rfl, rfl, ho⟩, hE⟩
abbrev celF (x y : Value) : List (Str × Value) := [("car", x), ("cdr", y)]
def Cel (g : View) (a : Addr) (x y : Value) : Prop := ∃ d o, g a = some (instObj CONS d) ∧ g d = some o ∧ DicM (celF x y) o
theorem Cel.le {g g' : View} {a x y} (h : Cel g a x y) (k : Le g g') : Cel g' a x y := let ⟨d, o, a, b, c⟩ := h; ⟨d, o, k _ _ a, k _ _ b, c⟩
theorem Cel.inst {a x y} (h : Cel g a x y) : InstL g n a CONS (celF x y) := let ⟨d, o, a, b, c⟩ := h; ⟨d, a, .inl ⟨o, b, c⟩⟩
theorem InstL.nt {a C fs} (h : InstL g n a C fs) : NT g n a := let ⟨d, e, _⟩ := h; .inl ⟨_, e, by intro q; cases q⟩
theorem Cel.nt {a x y} (h : Cel g a x y) : NT g n a := (h.inst (n := n)).nt
structure NilAt (g : View) : Prop where
  i : g NIL = some (instObj 58 63)
  d : ∃ fs o, g 63 = some o ∧ DicM fs o
theorem NilAt.le {g g' : View} (h : NilAt g) (k : Le g g') : NilAt g' := ⟨k _ _ h.i, let ⟨f, o, a, b⟩ := h.d; ⟨f, o, k _ _ a, b⟩⟩
theorem NilAt.inst (h : NilAt g) : ∃ fs, InstL g n NIL 58 fs := let ⟨fs, o, a, b⟩ := h.d; ⟨fs, 63, h.i, .inl ⟨o, a, b⟩⟩
theorem NilAt.nt (h : NilAt g) : NT g n NIL := .inl ⟨_, h.i, by intro q; cases q⟩
theorem InstL.ne_nil {a fs} (h : InstL g n a CONS fs) (hN : NilAt g) : a ≠ NIL := by
  rintro rfl
  obtain ⟨d, e, _⟩ := h
  rw [hN.i] at e
  simp at e
  exact absurd e.1 (by decide)
theorem Cel.ne_nil {a x y} (h : Cel g a x y) (hN : NilAt g) : a ≠ NIL := (h.inst (n := [])).ne_nil hN

def readsOK (K : Frag) (C : Addr) (x : Str) : Bool := plainGet K C x && hasDictIn K C && (match findIn K (.ref C) x with | some attr => noGet K attr | none => false)
theorem AT.inst {a C : Addr} {fs : List (Str × Value)} {x : Str} {v : Value} (hi : InstL g n a C fs) (hl : fs.lookup x = some v) (hr : readsOK (KK c.w) C x = true) (h : Φ v g n) : AT c m g n (.ref a) x Φ Ψ := fun u' hu => DO.val h fun s Q E S hQ => by
  obtain rfl := hu.ref
  obtain ⟨d, o, I, hE⟩ := hi.at S
  obtain ⟨v', e1, e2, e3⟩ := hE.get hl
  unfold readsOK at hr
  rw [Bool.and_eq_true, Bool.and_eq_true] at hr
  obtain ⟨⟨r1, r2⟩, r3⟩ := hr
  split at r3
  · rename_i attr hf
    exact get_value S.K I (plainGet_of r1).1 (findObj_own r2 hf r3 e1) e3 (hQ v' s.heap _ e2 S)
  · cases r3
theorem readsOK_car (w : World) : readsOK (KK w) CONS "car" = true := by kernel_rfl
theorem readsOK_cdr (w : World) : readsOK (KK w) CONS "cdr" = true := by kernel_rfl
theorem car_look (x y : Value) : (celF x y).lookup ("car" : Str) = some x := by rfl
theorem cdr_look (x y : Value) : (celF x y).lookup ("cdr" : Str) = some y := by rfl
theorem AT.car {a : Addr} {x y : Value} (hi : Cel g a x y) (h : Φ x g n) : AT c m g n (.ref a) "car" Φ Ψ := AT.inst hi.inst (car_look x y) (readsOK_car _) h
theorem AT.cdr {a : Addr} {x y : Value} (hi : Cel g a x y) (h : Φ y g n) : AT c m g n (.ref a) "cdr" Φ Ψ := AT.inst hi.inst (cdr_look x y) (readsOK_cdr _) h

def isiOK (K : Frag) (D : Addr) : Bool := plainGet K D "__class__" && hasDictIn K D && findIn K (.ref D) "__class__" == some (some (.builtin "object.__class__")) &&
  specialIn K (.builtin "object.__class__") "__get__" == some (some (.builtin "getset_descriptor.__get__")) && takesIn K (.builtin "object.__class__") == some true && mroIn K D (.type "object") == some true
theorem kitx_of_isiOK {K : Frag} {x D : Addr} {ox od : Obj} (h : isiOK K D = true) : KitX K (.ref x) (.ref D) (fun h => InstAt h x ox D (some od)) := by
  unfold isiOK at h
  simp only [Bool.and_eq_true, beq_iff_eq] at h
  obtain ⟨⟨⟨⟨⟨h1, h2⟩, h3⟩, h4⟩, h5⟩, h6⟩ := h
  exact kitx_own h1 h2 h3 h4 h5 h6
theorem CA.isi_int {i : Int} {t : Tok} {cls : Value} {b : Bool} (e : kitOne (KK c.w) (.type "int") cls = some b) (hc : ∀ v, Is cls v → v = cls) (h : Φ (.bool b) g n) : CA c m g n (.builtin "isinstance") [.int i t, cls] Φ Ψ := fun vs' hv => DO.val h fun s Q E S hQ => by
  cases hv with | cons h1 h2 => cases h2 with | cons h3 h4 => cases h4; obtain ⟨_, rfl⟩ := h1; obtain rfl := hc _ h3; exact kia_one kitx_int S.K trivial e (by intro q; cases q) fun tk => hQ _ s.heap tk (Is.rfl' _) S
theorem CA.isi_inst {a C : Addr} {fs} {cls : Value} {b : Bool} (hi : InstL g n a C fs) (hok : isiOK (KK c.w) C = true) (e : kitOne (KK c.w) (.ref C) cls = some b) (hc : ∀ v, Is cls v → v = cls) (h : Φ (.bool b) g n) : CA c m g n (.builtin "isinstance") [.ref a, cls] Φ Ψ := fun vs' hv => DO.val h fun s Q E S hQ => by
  cases hv with | cons h1 h2 => cases h2 with | cons h3 h4 =>
    cases h4; obtain rfl := h1.ref; obtain rfl := hc _ h3
    obtain ⟨d, o, I, hE⟩ := hi.at S
    exact kia_one (kitx_of_isiOK hok) S.K I e (by intro q; cases q) fun tk => hQ _ s.heap tk (Is.rfl' _) S
theorem isiOK_cons (w : World) : isiOK (KK w) CONS = true := by kernel_rfl
theorem isiOK_sym (w : World) : isiOK (KK w) 58 = true := by kernel_rfl
theorem kit_cons (w : World) : kitOne (KK w) (.ref CONS) (.ref CONS) = some true := by kernel_rfl
theorem kit_sym (w : World) : kitOne (KK w) (.ref 58) (.ref CONS) = some false := by kernel_rfl
theorem kit_int (w : World) : kitOne (KK w) (.type "int") (.ref CONS) = some false := by kernel_rfl
theorem is_eq_ref {a : Addr} : ∀ v, Is (.ref a) v → v = .ref a := fun _ h => h
theorem is_eq_type {a : String} : ∀ v, Is (.type a) v → v = .type a := fun _ h => h
theorem CA.isCons {a : Addr} {x y : Value} (hi : Cel g a x y) (h : Φ (.bool true) g n) : CA c m g n (.builtin "isinstance") [.ref a, .ref CONS] Φ Ψ := CA.isi_inst (n := n) hi.inst (isiOK_cons _) (kit_cons _) is_eq_ref h
theorem CA.nilCons (hN : NilAt g) (h : Φ (.bool false) g n) : CA c m g n (.builtin "isinstance") [.ref NIL, .ref CONS] Φ Ψ := let ⟨_, hi⟩ := hN.inst (n := n); CA.isi_inst hi (isiOK_sym _) (kit_sym _) is_eq_ref h
theorem CA.intCons {i : Int} {t : Tok} (h : Φ (.bool false) g n) : CA c m g n (.builtin "isinstance") [.int i t, .ref CONS] Φ Ψ := CA.isi_int (kit_int _) is_eq_ref h

inductive Put (x : Str) (v : Value) : Loc → Loc → Prop
  | here {u m} : Put x v ((x, u) :: m) ((x, some v) :: m)
  | there {p m m'} : Put x v m m' → Put x v (p :: m) (p :: m')
theorem Put.names {x v m m'} (h : Put x v m m') : m'.map (·.1) = m.map (·.1) := by
  induction h with
  | here => rfl
  | there _ ih => simp only [List.map_cons, ih]
theorem Put.name {x v m m'} (h : Put x v m m') : x ∈ m.map (·.1) := by
  induction h with
  | here => exact .head _
  | there _ ih => exact .tail _ ih
theorem Put.mem {x v m m'} (h : Put x v m m') (nd : (m.map (·.1)).Nodup) : ∀ y u, (y, some u) ∈ m' → (y = x ∧ u = v) ∨ (y ≠ x ∧ (y, some u) ∈ m) := by
  induction h with
  | here =>
    intro y u hm
    rcases List.mem_cons.mp hm with e | hm
    · cases e; exact .inl ⟨rfl, rfl⟩
    · exact .inr ⟨fun q => (List.nodup_cons.mp nd).1 (by rw [← q]; exact List.mem_map.mpr ⟨_, hm, rfl⟩), .tail _ hm⟩
  | there r ih =>
    intro y u hm
    rcases List.mem_cons.mp hm with e | hm
    · exact .inr ⟨fun q => (List.nodup_cons.mp nd).1 (by rw [← e]; exact q ▸ r.name), by rw [← e]; exact .head _⟩
    · exact (ih (List.nodup_cons.mp nd).2 y u hm).imp id fun q => ⟨q.1, .tail _ q.2⟩
theorem St.put {h h' : Heap} {x : Str} {v v' : Value} {m' : Loc} {mm : Str → Option Value} (S : St c m g n h) (P : Put x v m m') (hm : h.Ns c.L mm) (hi : ∀ y u, (y, some u) ∈ m → ∃ u', mm y = some u' ∧ Is u u')
    (hn : h'.Ns c.L (fun y => if y = x then some v' else mm y)) (hs : Heap.SameBut c.L h h') (hv : Is v v') : St c m' g n h' := by
  have e1 : ∀ b o, b ≠ c.L → h.get? b = some o → h'.get? b = some o := fun b o hb e => (hs.2 b hb).trans e
  refine { S with
    sits := ⟨fun b o e => e1 b o (fun q => by rw [q, S.Lg] at e; cases e) (S.sits.vw b o e), fun p hp => ?_, S.sits.off, S.sits.nd⟩
    loc := ⟨_, hn, fun y u q => ?_⟩
    mnd := P.names ▸ S.mnd
    mloc := P.names ▸ S.mloc
    fr := ?_
    keep := ⟨fun b o e => ?_, fun b o e hb => ?_⟩
    pins := fun p hp => let ⟨x, y⟩ := S.pins p hp; ⟨x.sameBut hs y.2, y⟩ }
  · obtain ⟨o, e, q⟩ := S.sits.ld p hp
    exact ⟨o, e1 _ o (fun z => S.Ln (z ▸ List.mem_map.mpr ⟨p, hp, rfl⟩)) e, q⟩
  · rcases P.mem S.mnd y u q with ⟨rfl, rfl⟩ | ⟨hne, q⟩
    · exact ⟨v', if_pos rfl, hv⟩
    · obtain ⟨u', a, b⟩ := hi y u q
      exact ⟨u', (if_neg hne).trans a, b⟩
  · obtain ⟨oL, ho, hd⟩ : ∃ o, h.get? c.L = some o ∧ ∃ es ep, o.data = .dict es ep := by obtain ⟨o, es, ep, q, d, _⟩ := hm; exact ⟨o, q, es, ep, d⟩
    obtain ⟨oL', ho', hd'⟩ : ∃ o, h'.get? c.L = some o ∧ ∃ es ep, o.data = .dict es ep := by obtain ⟨o, es, ep, q, d, _⟩ := hn; exact ⟨o, q, es, ep, d⟩
    have go : ∀ l : List Env, h.FunFrames emptyH l → h'.FunFrames emptyH l := by
      intro l
      induction l with
      | nil => intro _; trivial
      | cons env r ih =>
        rintro ⟨hk, ⟨L, o, hf, hn0, ho2, hd2⟩, hr⟩
        by_cases q : L = c.L
        · subst q; obtain ⟨es, ep, hd'⟩ := hd'; exact ⟨hk, ⟨_, oL', hf, hn0, ho', fun vs z => by rw [hd'] at z; cases z⟩, ih hr⟩
        · exact ⟨hk, ⟨L, o, hf, hn0, e1 L o q ho2, hd2⟩, ih hr⟩
    exact go _ S.fr
  · obtain ⟨o1, q1⟩ := S.keep.1 b o e
    by_cases q : b = c.L
    · obtain ⟨o, _, _, z, _⟩ := hn; exact ⟨o, q ▸ z⟩
    · exact ⟨o1, e1 b o1 q q1⟩
  · have hne : b ≠ c.L := fun q => by rw [q, S.Lnew] at e; cases e
    obtain ⟨a1, sl, a2⟩ := S.keep.2 b o e hb
    exact ⟨fun hf => e1 b o hne (a1 hf), sl, e1 b _ hne a2⟩
theorem store_sig {A : Around} {x : Str} {v v' : Value} {m' : Loc} {s : Shared} {Q : Unit → Shared → Prop} {E : Value → Shared → Prop} (S : St c m g n s.heap) (P : Put x v m m') (hv : Is v v') (hQ : ∀ h' tk, St c m' g n h' → Q () { s with heap := h', toks := tk }) :
    wpAny (model PR c.w) A (storeName c.env x v') Q E s := by
  obtain ⟨mm, hm, hi⟩ := S.loc
  exact wpAny_storeName_local (env := c.env) (S.mloc x P.name).1 hm (fun h' hn hs => hQ h' _ (S.put P hm hi hn hs hv)) (by show (c.sc.kind == .class || (c.sc.kind == .module && _)) = false; rw [S.hk]; rfl)

def Thn (c : Cx) (rest : List Stmt) (F : FPost) (Ψ : XPost) : FPost := fun f m g n => match f with | .next => SX c m g n rest F Ψ | f => F f m g n
theorem SX.nil (h : F .next m g n) : SX c m g n [] F Ψ := fun s Q E S hQ hE => wpAny_execs_nil (hQ .next .next m g n s.heap s.toks h .next (Le.rfl' g) S)
theorem SX.cons {st : Stmt} {rest : List Stmt} (h : S1 c m g n st (Thn c rest F Ψ) Ψ) : SX c m g n (st :: rest) F Ψ := fun s Q E S hQ hE => by
  refine wpAny_execs_cons (h s _ E S (fun f f' m' g' n' h' tk z hf le S' => ?_) hE)
  cases hf with
  | next => exact z { s with heap := h', toks := tk } Q E S' (fun f f' m2 g2 n2 h2 tk2 z hf le2 S2 => hQ f f' m2 g2 n2 h2 tk2 z hf (le.trans le2) S2) fun x m2 g2 n2 h2 tk2 z le2 S2 X2 => hE x m2 g2 n2 h2 tk2 z (le.trans le2) S2 X2
  | cont => exact hQ _ _ m' g' n' h' tk z .cont le S'
  | brk => exact hQ _ _ m' g' n' h' tk z .brk le S'
  | ret hv => exact hQ _ _ m' g' n' h' tk z (.ret hv) le S'
abbrev kAs (c : Cx) (m : Loc) (x : Str) (rest : List Stmt) (F : FPost) (Ψ : XPost) : Post := fun v g n => ∃ m', Put x v m m' ∧ SX c m' g n rest F Ψ
abbrev kRet (F : FPost) (m : Loc) : Post := fun v g n => F (.ret v) m g n
abbrev kIf2 (c : Cx) (m : Loc) (b : List Stmt) (FB : FPost) (o : List Stmt) (FO : FPost) (Ψ : XPost) : BPost := fun z g n => (z = true → SX c m g n b FB Ψ) ∧ (z = false → SX c m g n o FO Ψ)
abbrev kSE (c : Cx) (m : Loc) (rest : List Stmt) (F : FPost) (Ψ : XPost) : Post := fun _ g n => SX c m g n rest F Ψ
abbrev kSx (c : Cx) (m : Loc) (rest : List Stmt) (F : FPost) (Ψ : XPost) : View → Led → Prop := fun g n => SX c m g n rest F Ψ
theorem SX.assign {x : Str} {px pos : Pos} {e : Expr} {rest : List Stmt} (h : EX c m g n e (kAs c m x rest F Ψ) Ψ)
    (hs : swapsWith e (some (.Name x px)) pos.line c.env = pure false := by rfl) : SX c m g n (.Assign [.Name x px] e pos :: rest) F Ψ :=
  SX.cons fun s Q E S hQ hE => wpAny_Assign_Name (h s _ E S (fun a g1 n1 h1 tk z le S1 => by
    obtain ⟨v, hv, m', P, k⟩ := z
    exact store_sig (s := { s with heap := h1, toks := tk }) S1 P hv fun h' tk' S' => hQ .next .next m' g1 n1 h' tk' k .next le S') fun x g' n' h' tk z le S' X => hE x m g' n' h' tk z le S' X) hs
theorem SX.ret {e : Expr} {pos : Pos} {rest : List Stmt} (h : EX c m g n e (kRet F m) Ψ) : SX c m g n (.Return (some e) pos :: rest) F Ψ :=
  SX.cons fun s Q E S hQ hE => wpAny_Return_some (h s _ E S (fun a g1 n1 h1 tk z le S1 => let ⟨v, hv, k⟩ := z; hQ (.ret v) (.ret a) m g1 n1 h1 tk k (.ret hv) le S1) fun x g' n' h' tk z le S' X => hE x m g' n' h' tk z le S' X)
theorem SX.ife {t : Expr} {b o : List Stmt} {pos : Pos} {rest : List Stmt} (h : TX c m g n t (kIf2 c m b (Thn c rest F Ψ) o (Thn c rest F Ψ) Ψ) Ψ) : SX c m g n (.If t b o pos :: rest) F Ψ :=
  SX.cons fun s Q E S hQ hE => wpAny_If (h s _ E S (fun z g1 n1 h1 tk k le S1 => by
    cases z with
    | true => exact k.1 rfl { s with heap := h1, toks := tk } Q E S1 (fun f f' m2 g2 n2 h2 tk2 z hf le2 S2 => hQ f f' m2 g2 n2 h2 tk2 z hf (le.trans le2) S2) fun x m2 g2 n2 h2 tk2 z le2 S2 X2 => hE x m2 g2 n2 h2 tk2 z (le.trans le2) S2 X2
    | false => exact k.2 rfl { s with heap := h1, toks := tk } Q E S1 (fun f f' m2 g2 n2 h2 tk2 z hf le2 S2 => hQ f f' m2 g2 n2 h2 tk2 z hf (le.trans le2) S2) fun x m2 g2 n2 h2 tk2 z le2 S2 X2 => hE x m2 g2 n2 h2 tk2 z (le.trans le2) S2 X2)
    fun x g' n' h' tk z le S' X => hE x m g' n' h' tk z le S' X)
theorem SX.expr {e : Expr} {pos : Pos} {rest : List Stmt} (h : EX c m g n e (kSE c m rest F Ψ) Ψ) (hs : swapsWith e none pos.line c.env = pure false := by rfl) : SX c m g n (.Expr e pos :: rest) F Ψ :=
  SX.cons fun s Q E S hQ hE => wpAny_Expr_any (h s _ E S (fun a g1 n1 h1 tk z le S1 => let ⟨v, hv, k⟩ := z; hQ .next .next m g1 n1 h1 tk k .next le S1) fun x g' n' h' tk z le S' X => hE x m g' n' h' tk z le S' X) (by show (c.sc.kind == .module && _) = false; rw [S.hk]; rfl) hs
def Lop (I : Nat → Loc → View → Led → Prop) (k : Nat) (R F : FPost) : FPost := fun f m g n => match f with | .next | .cont => ∃ k', k' < k ∧ I k' m g n | .brk => R .next m g n | .ret v => F (.ret v) m g n
theorem SX.while (I : Nat → Loc → View → Led → Prop) (k : Nat) {t : Expr} {b : List Stmt} {pos : Pos} {rest : List Stmt} (hI : I k m g n)
    (h : ∀ k m1 g1 n1, Le g g1 → I k m1 g1 n1 → TX c m1 g1 n1 t (kIf2 c m1 b (Lop I k (Thn c rest F Ψ) F) rest F Ψ) Ψ) (hdf : c.comp = false := by assumption) : SX c m g n (.While t b [] pos :: rest) F Ψ := by
  refine SX.cons fun s Q E S hQ hE => wpAny_While (codeAny_whileLoop (fun k s' => ∃ m1 g1 n1 h1 tk, s' = { s with heap := h1, toks := tk } ∧ Le g g1 ∧ St c m1 g1 n1 h1 ∧ I k m1 g1 n1) ?_ k ⟨m, g, n, s.heap, s.toks, rfl, Le.rfl' g, S, hI⟩)
  rintro k s' ⟨m1, g1, n1, h1, tk, rfl, le, S1, hI⟩
  have hE' : ∀ {m1 : Loc} {g1 : View}, Le g g1 → ∀ x m' g' n' h' tk', Ψ g' n' → Le g1 g' → St c m' g' n' h' → Sig c g' n' x h' → notedBy (model PR c.w) c.A c.env (cameBackBy (model PR c.w) c.A c.env E) (.ref x) { s with heap := h', toks := tk' } :=
    fun le x m' g' n' h' tk' z le' S' X' => noted_sig hdf (s := { s with heap := h', toks := tk' }) S' X' fun h'' S'' X'' => hE x m' g' n' h'' tk' z (le.trans le') S'' X''
  refine h k m1 g1 n1 le hI { s with heap := h1, toks := tk } _ _ S1 (fun z g2 n2 h2 tk2 kk le2 S2 => ?_) fun x g' n' h' tk' z le' S' X' => hE' (m1 := m1) le x m1 g' n' h' tk' z le' S' X'
  cases z with
  | true =>
    simp only [if_true]
    refine kk.1 rfl { s with heap := h2, toks := tk2 } _ _ S2 (fun f f' m3 g3 n3 h3 tk3 z hf le3 S3 => ?_) fun x m' g' n' h' tk' z le' S' X' => hE' (m1 := m1) (le.trans le2) x m' g' n' h' tk' z le' S' X'
    cases hf with
    | next => obtain ⟨k', hk, z⟩ := z; exact ⟨k', hk, m3, g3, n3, h3, tk3, rfl, (le.trans le2).trans le3, S3, z⟩
    | cont => obtain ⟨k', hk, z⟩ := z; exact ⟨k', hk, m3, g3, n3, h3, tk3, rfl, (le.trans le2).trans le3, S3, z⟩
    | brk => exact hQ .next .next m3 g3 n3 h3 tk3 z .next ((le.trans le2).trans le3) S3
    | ret hv => exact hQ (.ret _) (.ret _) m3 g3 n3 h3 tk3 z (.ret hv) ((le.trans le2).trans le3) S3
  | false =>
    simp only [Bool.false_eq_true, if_false]
    exact wpAny_execs_nil (hQ .next .next m1 g2 n2 h2 tk2 (kk.2 rfl) .next (le.trans le2) S2)
end Mine

namespace Mine
variable {c : Cx} {m : Loc} {g : View} {n : Led} {Φ : Post} {Ψ : XPost} {F : FPost}

theorem fillNow : (fun (_ : OpenLaw) (_ : Params → Frag) => True) PySem.Challenge.rw_sq0008_01 hd.heap_39 := by
  k_fill
  trivial
theorem mk63 {w : World} {fs : List (Str × Value)} {o : Obj} (h : (KK w).lookup 63 = some o) (k : DicO fs o) (nd : (fs.map (·.1)).Nodup) : ∃ fs o, (KK w).lookup 63 = some o ∧ DicM fs o := by
  obtain ⟨es, kk, rfl, e⟩ := k
  exact ⟨fs, _, h, e.dic nd⟩
theorem nil63 (w : World) : ∃ fs o, (KK w).lookup 63 = some o ∧ DicM fs o := by
  refine' mk63 (fs := [("number", .int 0 0), ("name", .str "nil" 0), ("is_keyword", .bool false)]) ?h ?k (by decide +kernel)
  case h => delta KK; k_is
  case k => exact ⟨_, 3, rfl, .cons ⟨_, rfl⟩ rfl (.cons ⟨_, rfl⟩ rfl (.cons rfl rfl .nil))⟩
theorem nil64 (w : World) : (KK w).lookup 64 = some (instObj 58 63) := by kernel_rfl
theorem nilAt_of {w : World} {h₀ : Heap} (G : G0 w h₀) (hb : ∀ a o, h₀.get? a = some o → g a = some o) : NilAt g :=
  ⟨hb _ _ (G.K _ _ (nil64 w)), let ⟨fs, o, a, b⟩ := nil63 w; ⟨fs, o, hb _ _ (G.K _ _ a), b⟩⟩

inductive PutAll : List (Str × Value) → Loc → Loc → Prop
  | nil {m : Loc} : PutAll [] m m
  | cons {x : Str} {v : Value} {l : List (Str × Value)} {m m1 m2 : Loc} : Put x v m m1 → PutAll l m1 m2 → PutAll ((x, v) :: l) m m2
theorem Tup.isTup {h : Heap} {t us} (S : St c m g n h) (x : Tup g t us) : ∃ its, IsTup h t its ∧ AllIs us its.toList := by
  obtain ⟨o, e, its, k, rfl, q⟩ := x
  exact ⟨its, ⟨_, S.sits.vw _ _ e, rfl, _, rfl⟩, q⟩
theorem Lst.isList {h : Heap} {t us} (S : St c m g n h) (x : Lst g t us) : ∃ its, h.IsList t its ∧ AllIs us its.toList := by
  obtain ⟨o, e, its, k, rfl, q⟩ := x
  exact ⟨its, ⟨_, S.sits.vw _ _ e, rfl, _, rfl⟩, q⟩
theorem putAll_sig {fs : List (Value → Sem Unit)} {l : List (Str × Value)} {vs' : List Value} {m' : Loc} (P : PutAll l m m') (hv : AllIs (l.map (·.2)) vs') (hf : fs.length = l.length)
    (hs : ∀ (i : Nat) (f : Value → Sem Unit) (x : Str) (v : Value), fs[i]? = some f → l[i]? = some (x, v) → ∀ {s : Shared} {v' : Value} {Q : Unit → Shared → Prop} {E : Value → Shared → Prop}, wpAny (model PR c.w) c.A (storeName c.env x v') Q E s → wpAny (model PR c.w) c.A (f v') Q E s)
    {s : Shared} {Q : Unit → Shared → Prop} {E : Value → Shared → Prop} (S : St c m g n s.heap) (hQ : ∀ h' tk, St c m' g n h' → Q () { s with heap := h', toks := tk }) :
    wpAny (model PR c.w) c.A (assignInOrder fs vs') Q E s := by
  induction P generalizing fs vs' s with
  | nil =>
    cases hv
    cases fs with
    | nil => exact assignInOrder_nil (hQ s.heap s.toks S)
    | cons _ _ => cases hf
  | @cons x v l m m1 m2 P _ ih =>
    cases fs with
    | nil => cases hf
    | cons f fs =>
      cases hv with
      | cons h0 hv =>
        refine assignInOrder_cons (hs 0 f x v rfl rfl (store_sig S P h0 fun h' tk S' => ?_))
        exact ih hv (by simpa using hf) (fun i f' x' v' e1 e2 => hs (i + 1) f' x' v' (by simpa using e1) (by simpa using e2)) (s := { s with heap := h', toks := tk }) S' fun h'' tk' S'' => hQ h'' tk' S''
theorem St.newObj {h : Heap} (S : St c m g n h) (o : Obj) (hf : o.isFreed = false := by rfl) : St c m (gset g h.objs.size o) n (h.push o) ∧ Le g (gset g h.objs.size o) :=
  ⟨S.see (fun _ _ e => Heap.get?_push_of_some _ e) (Heap.get?_fresh h) (Heap.get?_push_size h hf), Le.gset (S.notin_g (Heap.get?_fresh h))⟩
theorem St.newOwn {h : Heap} {P : Obj → Prop} (S : St c m g n h) (o : Obj) (hP : P o) (hf : o.isFreed = false := by rfl) : St c m g ((h.objs.size, P) :: n) (h.push o) :=
  S.own (fun _ _ e => Heap.get?_push_of_some _ e) (Heap.get?_fresh h) (Heap.get?_push_size h hf) hP
theorem St.extBut {h h' : Heap} (S : St c m g n h) (k : Heap.ExtBut h.objs.size h h') : St c m g n h' := S.grow fun b o e => k b o (fun q => by rw [q, Heap.get?_fresh] at e; cases e) e

abbrev kTup (Φ : Post) : List Value → View → Led → Prop := fun vs g1 n1 => vs.length ≤ 1000 ∧ ∀ t g2, Le g1 g2 → Tup g2 t vs → Φ (.ref t) g2 n1
abbrev kLst (c : Cx) (Φ : Post) : List Value → View → Led → Prop := fun vs g1 n1 => vs.length ≤ 1000 ∧ ∀ l, c.h0.get? l = none → Φ (.ref l) g1 ((l, LstO vs) :: n1)
abbrev kLstF (Φ : Post) : List Value → View → Led → Prop := fun vs g1 n1 => vs.length ≤ 1000 ∧ ∀ t g2, Le g1 g2 → Lst g2 t vs → Φ (.ref t) g2 n1
abbrev kAsT (c : Cx) (m : Loc) (names : List Str) (rest : List Stmt) (F : FPost) (Ψ : XPost) : List Value → View → Led → Prop := fun vs g1 n1 => vs.length = names.length ∧ vs.length ≤ 1000 ∧ ∃ m', PutAll (names.zip vs).reverse m m' ∧ SX c m' g1 n1 rest F Ψ
abbrev kAsU (c : Cx) (m : Loc) (names : List Str) (rest : List Stmt) (F : FPost) (Ψ : XPost) : Post := fun v g1 n1 => ∃ t us, v = .ref t ∧ Tup g1 t us ∧ us.length = names.length ∧ ∃ m', PutAll (names.zip us) m m' ∧ SX c m' g1 n1 rest F Ψ
theorem EX.tup {es : List Expr} {k : Nat} {pos : Pos} (h : AX c m g n pos es (kTup Φ) Ψ) : EX c m g n (.Tuple es k pos) Φ Ψ := fun s Q E S hQ hE => by
  refine Tuple_ (h s _ E S (fun vs' g1 n1 h1 tk z le S1 => ?_) hE)
  obtain ⟨vs, hv, hl, k⟩ := z
  obtain ⟨S2, le2⟩ := S1.newObj { cls := .type "tuple", data := .seq vs'.toArray }
  refine wpAny_newObj_type (hQ _ _ n1 _ tk ⟨_, Is.rfl' _, k _ _ le2 ⟨_, gset_self, _, _, rfl, by simpa using hv⟩⟩ (le.trans le2) S2) ?_
  show vs'.toArray.size ≤ sizeLine
  rw [List.size_toArray, sizeLine_eq, ← hv.length]; omega
theorem EX.lst {es : List Expr} {pos : Pos} (h : AX c m g n pos es (kLst c Φ) Ψ) : EX c m g n (.List es pos) Φ Ψ := fun s Q E S hQ hE => by
  refine List_ (h s _ E S (fun vs' g1 n1 h1 tk z le S1 => ?_) hE)
  obtain ⟨vs, hv, hl, k⟩ := z
  refine wpAny_newObj_type (hQ _ _ _ _ tk ⟨_, Is.rfl' _, k _ (S1.keep.old (Heap.get?_fresh _))⟩ le (S1.newOwn { cls := .type "list", data := .seq vs'.toArray } ⟨_, _, rfl, by simpa using hv⟩)) ?_
  show vs'.toArray.size ≤ sizeLine
  rw [List.size_toArray, sizeLine_eq, ← hv.length]; omega
theorem EX.lstF {es : List Expr} {pos : Pos} (h : AX c m g n pos es (kLstF Φ) Ψ) : EX c m g n (.List es pos) Φ Ψ := fun s Q E S hQ hE => by
  refine List_ (h s _ E S (fun vs' g1 n1 h1 tk z le S1 => ?_) hE)
  obtain ⟨vs, hv, hl, k⟩ := z
  obtain ⟨S2, le2⟩ := S1.newObj { cls := .type "list", data := .seq vs'.toArray }
  refine wpAny_newObj_type (hQ _ _ n1 _ tk ⟨_, Is.rfl' _, k _ _ le2 ⟨_, gset_self, _, _, rfl, by simpa using hv⟩⟩ (le.trans le2) S2) ?_
  show vs'.toArray.size ≤ sizeLine
  rw [List.size_toArray, sizeLine_eq, ← hv.length]; omega

theorem SX.asgT {elts es : List Expr} {k k' : Nat} {tpos vpos pos : Pos} {rest : List Stmt} {names : List Str} (hw : swappedStores [.Tuple elts k tpos] (.Tuple es k' vpos) c.env = pure (some names))
    (h : AX c m g n vpos es (kAsT c m names rest F Ψ) Ψ)
    (hs : swapsWithSole [.Tuple elts k tpos] (.Tuple es k' vpos) pos.line c.env = pure false := by rfl) : SX c m g n (.Assign [.Tuple elts k tpos] (.Tuple es k' vpos) pos :: rest) F Ψ :=
  SX.cons fun s Q E S hQ hE => by
    refine Assign_Tuple_swapped (Tuple_ (h s _ E S (fun vs' g1 n1 h1 tk z le S1 => ?_) fun x g' n' h' tk z le S' X => hE x m g' n' h' tk z le S' X)) hs hw
    obtain ⟨vs, hv, hl, hl', m', P, kk⟩ := z
    have hsz : vs'.toArray.size ≤ sizeLine := by rw [List.size_toArray, sizeLine_eq, ← hv.length]; omega
    refine wpAny_newObj_type ?_ hsz
    have e0 : names.length = vs'.toArray.size := by rw [List.size_toArray, ← hv.length, hl]
    have S2 := S1.push { cls := .type "tuple", data := .seq vs'.toArray }
    rw [e0]
    refine unpackItems_tuple (s := { s with heap := h1.push { cls := .type "tuple", data := .seq vs'.toArray }, toks := tk }) S1.hh (IsTup.new _ _) fun h' he => ?_
    have S3 := S2.extBut he
    have e1 : (names.zip vs).reverse.map (·.2) = vs.reverse := by
      rw [List.map_reverse, List.map_snd_zip (by omega)]
    refine putAll_sig (s := { s with heap := h', toks := tk }) P ?_ ?_ ?_ S3 fun h'' tk' S'' => hQ .next .next m' g1 n1 h'' tk' kk .next le S''
    · rw [e1]
      have : ∀ {us vs : List Value}, AllIs us vs → AllIs us.reverse vs.reverse := fun h => by
        induction h with
        | nil => exact .nil
        | cons h0 _ ih => rw [List.reverse_cons, List.reverse_cons]; exact ih.append (.cons h0 .nil)
      simpa using this hv
    · simp [hl]
    · intro i f x v e1 e2 s v' Q E hh
      have hx : f = bindName c.env x := by
        have hz : ((names.zip vs).reverse.map (·.1)) = names.reverse := by rw [List.map_reverse, List.map_fst_zip (by omega)]
        have : ((names.zip vs).reverse.map (·.1))[i]? = some x := by rw [List.getElem?_map, e2]; rfl
        rw [hz] at this
        rw [List.getElem?_map, this] at e1
        exact (Option.some.inj e1).symm
      subst hx
      exact wpAny_bindName hh
theorem SX.asgU {elts : List Expr} {k : Nat} {tpos pos : Pos} {rest : List Stmt} {value : Expr} {names : List Str} (hn : elts.map (fun e => match e with | .Name x _ => some x | _ => none) = names.map some)
    (h : EX c m g n value (kAsU c m names rest F Ψ) Ψ)
    (hs : swapsWithSole [.Tuple elts k tpos] value pos.line c.env = pure false := by rfl) (hw : swappedStores [.Tuple elts k tpos] value c.env = pure none := by rfl)
    (hst : (assignEach elts c.env).findIdx? (·.1) = none := by rfl) (he : (assignEach elts c.env).map (·.2) = elts.map (fun e v => PySem.assign e c.env v) := by rfl) : SX c m g n (.Assign [.Tuple elts k tpos] value pos :: rest) F Ψ :=
  SX.cons fun s Q E S hQ hE => by
    refine Assign_Tuple (h s _ E S (fun v' g1 n1 h1 tk z le S1 => ?_) fun x g' n' h' tk z le S' X => hE x m g' n' h' tk z le S' X) hs hw
    obtain ⟨v, hv, t, us, rfl, ht, hl, m', P, kk⟩ := z
    obtain rfl := hv.ref
    obtain ⟨its, hT, hI⟩ := ht.isTup S1
    have hle : elts.length = names.length := by have := congrArg List.length hn; simpa using this
    have hlen : (assignEach elts c.env).length = its.size := by
      have := congrArg List.length he
      rw [List.length_map, List.length_map] at this
      rw [this, hle, ← hl, hI.length]; simp
    refine assign_Tuple_tuple (s := { s with heap := h1, toks := tk }) S1.hh hT hlen hst fun h' hx => ?_
    rw [he]
    refine putAll_sig (s := { s with heap := h', toks := tk }) P (by rw [List.map_snd_zip (by omega)]; exact hI) (by simp [hle, hl]) ?_ (S1.extBut hx) fun h'' tk' S'' => hQ .next .next m' g1 n1 h'' tk' kk .next le S''
    intro i f x v e1 e2 s v' Q E hh
    have h3 : (names.zip us)[i]? = some (x, v) := e2
    have h4 : names[i]? = some x := by
      have : ((names.zip us).map (·.1))[i]? = some x := by rw [List.getElem?_map, h3]; rfl
      rwa [List.map_fst_zip (by omega)] at this
    have h5 : (elts.map (fun e => match e with | .Name x _ => some x | _ => none))[i]? = some (some x) := by rw [hn, List.getElem?_map, h4]; rfl
    rw [List.getElem?_map] at h5 e1
    cases q : elts[i]? with
    | none => rw [q] at h5; cases h5
    | some e =>
      rw [q] at h5 e1
      have h6 := Option.some.inj h5
      have h7 := Option.some.inj e1
      subst h7
      cases e <;> first | (cases h6; exact PyProof.Rows.assign_Name hh) | cases h6
end Mine

namespace Mine
variable {c : Cx} {m : Loc} {g : View} {n : Led} {Φ : Post} {Ψ : XPost} {F : FPost}

@[elab_as_elim] theorem AllIs.e0 {G : List Value → Prop} {vs : List Value} (h : AllIs [] vs) (k : G []) : G vs := by
  cases h; exact k
@[elab_as_elim] theorem AllIs.e1 {a : Value} {G : List Value → Prop} {vs : List Value} (h : AllIs [a] vs) (k : ∀ x0, G [x0]) : G vs := by
  cases h with | cons _ h =>
    cases h; exact k _
@[elab_as_elim] theorem AllIs.e2 {a b : Value} {G : List Value → Prop} {vs : List Value} (h : AllIs [a, b] vs) (k : ∀ x0 x1, G [x0, x1]) : G vs := by
  cases h with | cons _ h =>
    cases h with | cons _ h =>
      cases h; exact k _ _
@[elab_as_elim] theorem AllIs.e3 {a b c : Value} {G : List Value → Prop} {vs : List Value} (h : AllIs [a, b, c] vs) (k : ∀ x0 x1 x2, G [x0, x1, x2]) : G vs := by
  cases h with | cons _ h =>
    cases h with | cons _ h =>
      cases h with | cons _ h =>
        cases h; exact k _ _ _
@[elab_as_elim] theorem AllIs.e4 {a b c d : Value} {G : List Value → Prop} {vs : List Value} (h : AllIs [a, b, c, d] vs) (k : ∀ x0 x1 x2 x3, G [x0, x1, x2, x3]) : G vs := by
  cases h with | cons _ h =>
    cases h with | cons _ h =>
      cases h with | cons _ h =>
        cases h with | cons _ h =>
          cases h; exact k _ _ _ _
@[elab_as_elim] theorem AllIs.e5 {a b c d e : Value} {G : List Value → Prop} {vs : List Value} (h : AllIs [a, b, c, d, e] vs) (k : ∀ x0 x1 x2 x3 x4, G [x0, x1, x2, x3, x4]) : G vs := by
  cases h with | cons _ h =>
    cases h with | cons _ h =>
      cases h with | cons _ h =>
        cases h with | cons _ h =>
          cases h with | cons _ h =>
            cases h; exact k _ _ _ _ _
theorem lk_of {x : Str} {sc : Scope} {k : NameKind} (h : c.sc = sc) (e : sc.names.lookup x = some k) : c.sc.names.lookup x = some k := h ▸ e
theorem sw_of {c : Cx} {sc : Scope} {ts : List Expr} {v : Expr} {names : Option (List Str)} (h : c.sc = sc) (e : ∀ L f fa cd cl nm, swappedStores ts v { scope := sc, locals := L, globals := mainGlobals, cells := cl, qual := nm ++ ".<locals>.", func := f, code := cd, frame := some fa, builtins := builtinsNs } = pure names) : swappedStores ts v c.env = pure names := by
  subst h; exact e _ _ _ _ _ _
theorem Thn.next {rest : List Stmt} (h : SX c m g n rest F Ψ) : Thn c rest F Ψ .next m g n := h
theorem Thn.ret {rest : List Stmt} {v : Value} (h : F (.ret v) m g n) : Thn c rest F Ψ (.ret v) m g n := h
theorem Thn.brk {rest : List Stmt} (h : F .brk m g n) : Thn c rest F Ψ .brk m g n := h
theorem Thn.cont {rest : List Stmt} (h : F .cont m g n) : Thn c rest F Ψ .cont m g n := h
theorem Out.ret {v : Value} (h : Φ v g n) : Out Φ (.ret v) m g n := h
theorem Out.next (h : Φ .none g n) : Out Φ .next m g n := h
theorem Lop.next {I : Nat → Loc → View → Led → Prop} {k : Nat} {R : FPost} (h : ∃ k', k' < k ∧ I k' m g n) : Lop I k R F .next m g n := h
theorem Lop.cont {I : Nat → Loc → View → Led → Prop} {k : Nat} {R : FPost} (h : ∃ k', k' < k ∧ I k' m g n) : Lop I k R F .cont m g n := h
theorem Lop.ret {I : Nat → Loc → View → Led → Prop} {k : Nat} {R : FPost} {v : Value} (h : F (.ret v) m g n) : Lop I k R F (.ret v) m g n := h
theorem Lop.brk {I : Nat → Loc → View → Led → Prop} {k : Nat} {R : FPost} (h : R .next m g n) : Lop I k R F .brk m g n := h
theorem brT {A B : Prop} (h : A) : ((true = true) → A) ∧ ((true = false) → B) := ⟨fun _ => h, fun h => nomatch h⟩
theorem brF {A B : Prop} (h : B) : ((false = true) → A) ∧ ((false = false) → B) := ⟨fun h => (nomatch h), fun _ => h⟩
theorem brNT {A B : Prop} (h : B) : (((!true) = true) → A) ∧ (((!true) = false) → B) := ⟨fun h => (nomatch h), fun _ => h⟩
theorem brNF {A B : Prop} (h : A) : (((!false) = true) → A) ∧ (((!false) = false) → B) := ⟨fun _ => h, fun h => nomatch h⟩
theorem orF {A B : Prop} (h : A) : ((false = false) → A) ∧ ((false = true) → B) := ⟨fun _ => h, fun h => nomatch h⟩
theorem orT {A B : Prop} (h : B) : ((true = false) → A) ∧ ((true = true) → B) := ⟨fun h => (nomatch h), fun _ => h⟩
theorem sideP {x : Str} {v : Value} {m' : Loc} {K : Loc → Prop} (h : Put x v m m') (k : K m') : ∃ m', Put x v m m' ∧ K m' := ⟨m', h, k⟩
theorem sideT {names : List Str} {vs : List Value} {m' : Loc} {K : Loc → Prop} (h1 : vs.length = names.length) (h2 : vs.length ≤ 1000) (h3 : PutAll (names.zip vs).reverse m m') (k : K m') :
    vs.length = names.length ∧ vs.length ≤ 1000 ∧ ∃ m', PutAll (names.zip vs).reverse m m' ∧ K m' := ⟨h1, h2, m', h3, k⟩
theorem sideU {v : Value} {names : List Str} {t : Addr} {us : List Value} {m' : Loc} {K : Loc → Prop} (h0 : v = .ref t) (h1 : Tup g t us) (h2 : us.length = names.length) (h3 : PutAll (names.zip us) m m') (k : K m') :
    ∃ t us, v = .ref t ∧ Tup g t us ∧ us.length = names.length ∧ ∃ m', PutAll (names.zip us) m m' ∧ K m' := ⟨t, us, h0, h1, h2, m', h3, k⟩
theorem sideD {vs : List Value} {K : Prop} (h : vs.length ≤ 1000) (k : K) : vs.length ≤ 1000 ∧ K := ⟨h, k⟩
def nmsOf : List Expr → List Str
  | .Name x _ :: r => x :: nmsOf r
  | _ => []
theorem SX.asgTn {elts es : List Expr} {k k' : Nat} {tpos vpos pos : Pos} {rest : List Stmt} (hw : swappedStores [.Tuple elts k tpos] (.Tuple es k' vpos) c.env = pure (some (nmsOf elts)))
    (h : AX c m g n vpos es (kAsT c m (nmsOf elts) rest F Ψ) Ψ)
    (hs : swapsWithSole [.Tuple elts k tpos] (.Tuple es k' vpos) pos.line c.env = pure false := by rfl) : SX c m g n (.Assign [.Tuple elts k tpos] (.Tuple es k' vpos) pos :: rest) F Ψ := SX.asgT hw h hs
theorem SX.asgUn {elts : List Expr} {k : Nat} {tpos pos : Pos} {rest : List Stmt} {value : Expr}
    (h : EX c m g n value (kAsU c m (nmsOf elts) rest F Ψ) Ψ)
    (hn : elts.map (fun e => match e with | .Name x _ => some x | _ => none) = (nmsOf elts).map some := by rfl)
    (hs : swapsWithSole [.Tuple elts k tpos] value pos.line c.env = pure false := by rfl) (hw : swappedStores [.Tuple elts k tpos] value c.env = pure none := by rfl)
    (hst : (assignEach elts c.env).findIdx? (·.1) = none := by rfl) (he : (assignEach elts c.env).map (·.2) = elts.map (fun e v => PySem.assign e c.env v) := by rfl) : SX c m g n (.Assign [.Tuple elts k tpos] value pos :: rest) F Ψ := SX.asgU hn h hs hw hst he
theorem SX.pass {pos : Pos} {rest : List Stmt} (h : SX c m g n rest F Ψ) : SX c m g n (.Pass pos :: rest) F Ψ := SX.cons fun s Q E S hQ hE => by
  exact wpAny_Pass (hQ .next .next m g n s.heap s.toks h .next (Le.rfl' g) S)
theorem SX.brk {pos : Pos} {rest : List Stmt} (h : F .brk m g n) : SX c m g n (.Break pos :: rest) F Ψ := SX.cons fun s Q E S hQ hE => by
  exact wpAny_Break (hQ .brk .brk m g n s.heap s.toks h .brk (Le.rfl' g) S)
theorem SX.cont {pos : Pos} {rest : List Stmt} (h : F .cont m g n) : SX c m g n (.Continue pos :: rest) F Ψ := SX.cons fun s Q E S hQ hE => by
  exact wpAny_Continue (hQ .cont .cont m g n s.heap s.toks h .cont (Le.rfl' g) S)

structure Ring (g : View) (P : Nat → Addr) (T : Nat → Value) (a m : Nat) : Prop where
  cel : ∀ i, Cel g (P i) (T i) (.ref (P (i + 1)))
  m0 : 0 < m
  per : ∀ i j, P i = P j ↔ (i = j ∨ (a ≤ i ∧ a ≤ j ∧ i % m = j % m))
  big : m * (a + 1) ≤ 100000
theorem Ring.le {g g' : View} {P T a m} (h : Ring g P T a m) (k : Le g g') : Ring g' P T a m := ⟨fun i => (h.cel i).le k, h.m0, h.per, h.big⟩
end Mine
local macro_rules | `(tactic| walk_at "M.mem") => `(tactic| first | exact List.mem_cons_self | (refine List.mem_cons_of_mem _ ?_; walk_at "M.mem"))
local macro_rules | `(tactic| walk_at "M.put") => `(tactic| first | exact Mine.Put.here | exact Mine.Put.there (by walk_at "M.put"))
local macro_rules | `(tactic| walk_at "M.putAll") => `(tactic| first | exact Mine.PutAll.nil | exact Mine.PutAll.cons (by walk_at "M.put") (by walk_at "M.putAll"))
local macro_rules | `(tactic| walk_at "M.tup") => `(tactic| assumption)
local macro_rules | `(tactic| walk_at "M.lk") => `(tactic| exact Mine.lk_of (by assumption) (by kernel_rfl))
local macro_rules | `(tactic| walk_at "M.is") => `(tactic| (delta Mine.KK; k_is))
local macro_rules | `(tactic| walk_at "M.cel") => `(tactic| first | assumption | exact Mine.Ring.cel (by assumption) _)
local macro_rules | `(tactic| walk_at "M.nt") => `(tactic| first | assumption | exact Mine.Cel.nt (by walk_at "M.cel") | exact Mine.NilAt.nt (by assumption) | exact Mine.Lst.nt (by assumption))
local macro_rules | `(tactic| walk_at "M.th") => `(tactic| first | exact Mine.NT.th (by walk_at "M.nt") | assumption)
local macro_rules | `(tactic| walk_at "M.ent") => `(tactic| (
  (case ho => walk_at "M.is"); (case hcd => walk_at "M.is")
  (case hb => (intro s vs X h; first | exact Mine.AllIs.e1 h fun _ => ⟨[], .nil, BindsTo.of_eq rfl⟩ | exact Mine.AllIs.e2 h fun _ _ => ⟨[], .nil, BindsTo.of_eq rfl⟩ | exact Mine.AllIs.e3 h fun _ _ _ => ⟨[], .nil, BindsTo.of_eq rfl⟩ | exact Mine.AllIs.e4 h fun _ _ _ _ => ⟨[], .nil, BindsTo.of_eq rfl⟩ | exact Mine.AllIs.e5 h fun _ _ _ _ _ => ⟨[], .nil, BindsTo.of_eq rfl⟩ | exact Mine.AllIs.e0 h ⟨[], .nil, BindsTo.of_eq rfl⟩))
  (case hl => rfl); (case hn => kernel_rfl); (case hnd => decide +kernel); (case hc => kernel_rfl); (case hco => rfl); (case hg => rfl); (case hk => rfl)))
local macro_rules | `(tactic| walk_at "M.e") => `(tactic| first
  | ((with_reducible refine (?_ : Mine.EX _ _ _ _ (Expr.Name _ _) _ _)); first
    | with_reducible refine Mine.EX.loc (by walk_at "M.mem") ?_
    | walk_at "M.name"
    | (refine' Mine.EX.glob ?hx ?hg ?hv ?hd ?_; (case hx => walk_at "M.lk"); (case hg => walk_at "M.is"); (case hv => exact Mine.Is.rfl' _); (case hd => decide +kernel))
    | (refine' Mine.EX.bltn ?hx ?hg ?hb ?hn ?hd ?_; (case hx => walk_at "M.lk"); (case hg => walk_at "M.is"); (case hb => boot_fast); (case hn => decide +kernel); (case hd => decide +kernel)))
  | ((with_reducible refine (?_ : Mine.EX _ _ _ _ (Expr.Constant _ _ _) _ _)); first | with_reducible refine Mine.EX.intC ?_ | with_reducible refine Mine.EX.noneC ?_ | with_reducible refine Mine.EX.boolC ?_ | with_reducible refine Mine.EX.strC ?_)
  | ((with_reducible refine (?_ : Mine.EX _ _ _ _ (Expr.Compare _ [_] [_] _) _ _)); refine Mine.EX.cmp ?_)
  | ((with_reducible refine (?_ : Mine.EX _ _ _ _ (Expr.Attribute _ _ _) _ _)); refine Mine.EX.attr ?_)
  | ((with_reducible refine (?_ : Mine.EX _ _ _ _ (Expr.Call (Expr.Name _ _) (_ :: _) [] _) _ _)); first
    | walk_at "M.call"
    | (refine' Mine.EX.callK ?hx ?hg ?hk ?hd ?_; (case hx => walk_at "M.lk"); (case hg => walk_at "M.is"); (case hk => walk_at "M.is"); (case hd => decide +kernel))
    | (refine' Mine.EX.callB ?hx ?hg ?hb ?hn ?hd ?_; (case hx => walk_at "M.lk"); (case hg => walk_at "M.is"); (case hb => boot_fast); (case hn => decide +kernel); (case hd => decide +kernel)))
  | with_reducible (first
    | refine Mine.EX.bin ?_
    | refine Mine.EX.un ?_
    | refine Mine.EX.ife ?_
    | refine Mine.EX.and_one ?_
    | refine Mine.EX.and ?_
    | refine Mine.EX.or ?_
    | refine Mine.EX.tup ?_)
  | walk_at "M.e2")
local macro_rules | `(tactic| walk_at "M.e2") => `(tactic| fail)
local macro_rules | `(tactic| walk_at "M.name") => `(tactic| fail)
local macro_rules | `(tactic| walk_at "M.call") => `(tactic| fail)
local macro_rules | `(tactic| walk_at "M.t") => `(tactic| first
  | ((with_reducible refine (?_ : Mine.TX _ _ _ _ (Expr.Compare _ [_] [_] _) _ _)); refine Mine.TX.cmp ?_)
  | with_reducible (first
    | refine Mine.TX.not ?_
    | refine Mine.TX.and_nil ?_
    | refine Mine.TX.or_nil ?_
    | refine Mine.TX.and ?_
    | refine Mine.TX.or ?_
    | refine Mine.TX.ife ?_)
  | ((with_reducible refine (?_ : Mine.TX _ _ _ _ (Expr.Call _ _ _ _) _ _)); refine Mine.TX.plain ?_)
  | ((with_reducible refine (?_ : Mine.TX _ _ _ _ (Expr.Name _ _) _ _)); refine Mine.TX.plain ?_))
local macro_rules | `(tactic| walk_at "M.co") => `(tactic| first
  | with_reducible (first
    | refine Mine.CO.isNone ?_
    | refine Mine.CO.isntNone ?_)
  | ((with_reducible refine (?_ : Mine.CO _ _ _ _ CmpOp.Is (Value.ref _) (Value.ref _) _ _)); refine Mine.CO.is (by walk_at "M.nt") (by walk_at "M.th") ?_)
  | ((with_reducible refine (?_ : Mine.CO _ _ _ _ CmpOp.IsNot (Value.ref _) (Value.ref _) _ _)); refine Mine.CO.isnt (by walk_at "M.nt") (by walk_at "M.th") ?_)
  | with_reducible (first
    | refine Mine.CO.lt ?_
    | refine Mine.CO.gt ?_
    | refine Mine.CO.le ?_
    | refine Mine.CO.eq ?_
    | refine Mine.CO.ne ?_))
local macro_rules | `(tactic| walk_at "M.isi") => `(tactic| first
  | with_reducible refine Mine.CA.intCons ?_
  | ((with_reducible refine (?_ : Mine.CA _ _ _ _ _ [Value.ref Mine.NIL, Value.ref Mine.CONS] _ _)); refine Mine.CA.nilCons (by assumption) ?_)
  | ((with_reducible refine (?_ : Mine.CA _ _ _ _ _ [Value.ref _, Value.ref Mine.CONS] _ _)); refine Mine.CA.isCons (by walk_at "M.cel") ?_)
  | walk_at "M.isi2")
local macro_rules | `(tactic| walk_at "M.isi2") => `(tactic| fail)
local macro_rules | `(tactic| walk_at "M.ca") => `(tactic| fail)
local macro_rules | `(tactic| walk_at "M.at") => `(tactic| first
  | ((with_reducible refine (?_ : Mine.AT _ _ _ _ (Value.ref _) "car" _ _)); refine Mine.AT.car (by walk_at "M.cel") ?_)
  | ((with_reducible refine (?_ : Mine.AT _ _ _ _ (Value.ref _) "cdr" _ _)); refine Mine.AT.cdr (by walk_at "M.cel") ?_))
local macro_rules | `(tactic| walk_at "M.x") => `(tactic| first
  | ((with_reducible refine (?_ : Mine.SX _ _ _ _ (Stmt.Assign [Expr.Name _ _] _ _ :: _) _ _)); refine Mine.SX.assign ?_)
  | ((with_reducible refine (?_ : Mine.SX _ _ _ _ (Stmt.Assign [Expr.Tuple _ _ _] (Expr.Tuple _ _ _) _ :: _) _ _)); refine Mine.SX.asgTn (Mine.sw_of (by assumption) (fun _ _ _ _ _ _ => by kernel_rfl)) ?_)
  | ((with_reducible refine (?_ : Mine.SX _ _ _ _ (Stmt.Assign [Expr.Tuple _ _ _] _ _ :: _) _ _)); refine Mine.SX.asgUn ?_)
  | with_reducible (first
    | refine Mine.SX.ret ?_
    | refine Mine.SX.ife ?_)
  | ((with_reducible refine (?_ : Mine.SX _ _ _ _ (Stmt.Expr _ _ :: _) _ _)); refine Mine.SX.expr ?_)
  | with_reducible (first
    | refine Mine.SX.nil ?_
    | refine Mine.SX.pass ?_
    | refine Mine.SX.brk ?_
    | refine Mine.SX.cont ?_)
  | walk_at "M.x2")
local macro_rules | `(tactic| walk_at "M.x2") => `(tactic| fail)
local macro_rules | `(tactic| walk_at "M.f") => `(tactic| first
  | with_reducible (first
    | refine Mine.Thn.next ?_
    | refine Mine.Thn.ret ?_
    | refine Mine.Thn.brk ?_
    | refine Mine.Thn.cont ?_
    | refine Mine.Out.ret ?_
    | refine Mine.Out.next ?_
    | refine Mine.Lop.next ?_
    | refine Mine.Lop.cont ?_
    | refine Mine.Lop.ret ?_
    | refine Mine.Lop.brk ?_))
local macro_rules | `(tactic| walk_at "M.m") => `(tactic| first
  | with_reducible (first
    | refine Mine.brT ?_
    | refine Mine.brF ?_
    | refine Mine.brNT ?_
    | refine Mine.brNF ?_
    | refine Mine.orT ?_
    | refine Mine.orF ?_)
  | ((with_reducible refine (?_ : (List.length _ = List.length _ ∧ List.length _ ≤ 1000 ∧ Exists _))); refine Mine.sideT rfl (Nat.le_of_ble_eq_true rfl) (by walk_at "M.putAll") ?_)
  | ((with_reducible refine (?_ : (List.length _ ≤ 1000 ∧ _))); refine Mine.sideD (Nat.le_of_ble_eq_true rfl) ?_)
  | ((with_reducible refine (?_ : (Exists fun t => Exists fun us => _ = Value.ref t ∧ Mine.Tup _ _ _ ∧ _))); refine Mine.sideU rfl (by walk_at "M.tup") rfl (by walk_at "M.putAll") ?_)
  | ((with_reducible refine (?_ : (Exists fun m' => Mine.Put _ _ _ m' ∧ _))); refine Mine.sideP (by walk_at "M.put") ?_))
local macro_rules | `(tactic| walk_at "M.s") => `(tactic| first
  | ((with_reducible refine (?_ : Mine.EX _ _ _ _ _ _ _)); walk_at "M.e")
  | ((with_reducible refine (?_ : Mine.SX _ _ _ _ _ _ _)); walk_at "M.x")
  | ((with_reducible refine (?_ : Mine.TX _ _ _ _ _ _ _)); walk_at "M.t")
  | ((with_reducible refine (?_ : Mine.AX _ _ _ _ _ _ _ _)); first | with_reducible refine Mine.AX.nil ?_ | refine Mine.AX.cons ?_)
  | ((with_reducible refine (?_ : Mine.CO _ _ _ _ _ _ _ _ _)); walk_at "M.co")
  | ((with_reducible refine (?_ : Mine.AT _ _ _ _ _ _ _ _)); walk_at "M.at")
  | ((with_reducible refine (?_ : Mine.CA _ _ _ _ _ _ _ _)); first | ((with_reducible refine (?_ : Mine.CA _ _ _ _ (Value.builtin "isinstance") _ _ _)); walk_at "M.isi") | walk_at "M.ca")
  | ((with_reducible refine (?_ : Mine.TR _ _ _ _ _ _ _)); first | with_reducible refine Mine.TR.bool ?_ | with_reducible refine Mine.TR.none ?_)
  | ((with_reducible refine (?_ : Mine.BO _ _ _ _ _ _ _ _ _)); first | with_reducible refine Mine.BO.add ?_ | with_reducible refine Mine.BO.sub ?_)
  | ((with_reducible refine (?_ : Mine.UO _ _ _ _ _ _ _ _)); first | with_reducible refine Mine.UO.not ?_ | with_reducible refine Mine.UO.neg ?_)
  | walk_at "M.f"
  | walk_at "M.m")
local macro_rules | `(tactic| walk_at "M.go") => `(tactic| repeat walk_at "M.s")

namespace Mine
variable {c : Cx} {m : Loc} {g : View} {n : Led} {Φ : Post} {Ψ : XPost} {F : FPost}
theorem half_e {s : Nat} (h : (s + 1) % 2 = 0) : (s + 1) / 2 = s / 2 + 1 ∧ 2 * (s / 2 + 1) = s + 1 := by lia
theorem half_o {s : Nat} (h : ¬ (s + 1) % 2 = 0) : (s + 1) / 2 = s / 2 := by lia
theorem st_a {s k N : Nat} (h : s + k = N) (h0 : 0 < k) : s + 1 + (k - 1) = N := by
  cases k with
  | zero => cases h0
  | succ k => exact (Nat.succ_add s k).trans h
theorem st_b {k : Nat} (h0 : 0 < k) : k - 1 < k := Nat.sub_lt h0 Nat.one_pos
theorem st_c {s k N : Nat} (h : s + k = N) (h0 : 0 < k) (ne : s + 1 ≠ N) : 0 < k - 1 := by
  cases k with
  | zero => cases h0
  | succ k => exact Nat.pos_of_ne_zero fun e => ne (by subst e; exact h)
theorem st_o {s N : Nat} (h : ¬ (s + 1) % 2 = 0) : s + 1 ≠ 2 * N := fun e => h (by rw [e]; exact Nat.mul_mod_right 2 N)
theorem st_j {s j : Nat} (h1 : 2 * j ≤ s + 1) (h2 : ¬ 2 * j ≤ s) : 2 * j = s + 1 := Nat.le_antisymm h1 (Nat.lt_of_not_le h2)
theorem st_h {s j t : Nat} (e : 2 * (t + 1) = s + 1) (h : 2 * j = s + 1) : j = t + 1 := Nat.eq_of_mul_eq_mul_left (by decide) (h.trans e.symm)
theorem st_n {s t N : Nat} (e : 2 * (t + 1) = s + 1) (h : s + 1 = 2 * N) : t + 1 = N := Nat.eq_of_mul_eq_mul_left (by decide) (e.trans h)
theorem st_l {s j : Nat} (ho : ¬ (s + 1) % 2 = 0) (h : 2 * j ≤ s + 1) : 2 * j ≤ s := Nat.le_of_lt_succ (Nat.lt_of_le_of_ne h fun e => st_o ho e.symm)
theorem st_x {s j : Nat} (ho : ¬ (s + 1) % 2 = 0) (h : 2 * j = s + 1) : False := st_o ho h.symm
theorem st_y {s t j : Nat} (e : 2 * (t + 1) = s + 1) (h : j < t + 1) : 2 * j ≤ s := Nat.le_of_lt_succ (Nat.lt_of_lt_of_eq ((Nat.mul_lt_mul_left (by decide)).mpr h) e)
theorem st_z {j : Nat} (h1 : 0 < j) (h2 : 2 * j ≤ 0) : False := by
  cases j with
  | zero => cases h1
  | succ j => exact Nat.not_succ_le_zero _ h2
theorem st_q {s t a q j : Nat} (e : 2 * (t + 1) = s + 1) (h1 : a ≤ t + 1) (h2 : q ≤ t + 1) (h : j < a + q) : j < s + 1 := Nat.lt_of_lt_of_eq (Nat.lt_of_lt_of_le h (Nat.add_le_add h1 h2)) ((Nat.two_mul _).symm.trans e)
theorem st_1 (a : Nat) : a ≤ 1 * (a + 1) := Nat.le_trans (Nat.le_succ a) (Nat.le_of_eq (Nat.one_mul _).symm)
theorem st_f {s t k : Nat} (e : 2 * (t + 1) = s + 1) (h : s < k) : t + 1 < k := Nat.lt_of_lt_of_le (Nat.lt_of_lt_of_eq (Nat.lt_add_of_pos_left (Nat.succ_pos t)) ((Nat.two_mul _).symm.trans e)) h
theorem st_d {s t k : Nat} (e : 2 * (t + 1) = s + 1) (h : s < k) : t < k := Nat.lt_of_succ_lt (st_f e h)
theorem st_p {s j k : Nat} (h : s + j = k) (l : s < k) : 0 < j := Nat.pos_of_ne_zero fun e => by subst e; exact absurd h (Nat.ne_of_lt l)
theorem st_g {s t : Nat} (e : 2 * (t + 1) = s + 1) (h : s + 1 = t + 1) : False := Nat.lt_irrefl _ (Nat.lt_of_lt_of_eq (Nat.lt_add_of_pos_left (Nat.succ_pos t)) (((Nat.two_mul _).symm.trans e).trans h))
theorem lt4 {z : Nat} (h : z < 4) : z = 0 ∨ z = 1 ∨ z = 2 ∨ z = 3 := (by decide : ∀ z, z < 4 → (z = 0 ∨ z = 1 ∨ z = 2 ∨ z = 3)) z h
theorem lt5 {z : Nat} (h : z < 5) : z = 0 ∨ z = 1 ∨ z = 2 ∨ z = 3 ∨ z = 4 := (by decide : ∀ z, z < 5 → (z = 0 ∨ z = 1 ∨ z = 2 ∨ z = 3 ∨ z = 4)) z h
theorem leS {k n : Nat} (h : n = k + 1) : k ≤ n := h ▸ Nat.le_succ k
theorem nz_of {n : Nat} (h : ((n : Nat) : Int) = 0) : n = 0 := Int.ofNat.inj h
theorem leK {a k n : Nat} (h : n = k) (e : Nat.ble a k = true) : a ≤ n := by subst h; exact Nat.le_of_ble_eq_true e
theorem leT {a b c : Nat} (h : a ≤ b) (e : Nat.ble b c = true) : a ≤ c := Nat.le_trans h (Nat.le_of_ble_eq_true e)
theorem leT1 {a b c : Nat} (h : a ≤ b) (e : Nat.ble (b + 1) c = true) : a + 1 ≤ c := Nat.le_trans (Nat.succ_le_succ h) (Nat.le_of_ble_eq_true e)
theorem leT0 {a b c : Nat} (h : a < b) (e : Nat.ble b c = true) : a ≤ c := Nat.le_trans (Nat.le_of_lt h) (Nat.le_of_ble_eq_true e)
theorem t0 {a q : Nat} (h : 0 < q) : Int.toNat 0 < a + q := Nat.add_pos_right a h
end Mine
local macro_rules | `(tactic| walk_at "M.om") => `(tactic| first
  | (with_reducible first
    | exact Mine.leK (by assumption) (by with_unfolding_all exact rfl)
    | exact Int.natCast_nonneg _
    | assumption
    | exact Nat.succ_pos _
    | exact Nat.zero_le _
    | exact Nat.zero_add _
    | exact Nat.succ_le_of_lt (by assumption)
    | exact Mine.t0 (by assumption)
    | exact Mine.st_1 _
    | exact Nat.add_pos_right _ (Nat.succ_pos _))
  | decide
  | (with_reducible first
    | exact Mine.leT (by assumption) (by with_unfolding_all exact rfl)
    | exact Mine.leT1 (by assumption) (by with_unfolding_all exact rfl)
    | exact Mine.leT0 (by assumption) (by with_unfolding_all exact rfl))
  | omega)
namespace Mine
variable {c : Cx} {m : Loc} {g : View} {n : Led} {Φ : Post} {Ψ : XPost} {F : FPost}
theorem meet {P : Nat → Addr} {a q s : Nat} (h0 : 0 < s) (hm : 0 < q) (per : ∀ i j, P i = P j ↔ (i = j ∨ (a ≤ i ∧ a ≤ j ∧ i % q = j % q))) : P s = P (2 * s) ↔ a ≤ s ∧ s % q = 0 := by
  rw [per]
  constructor
  · rintro (h | ⟨h1, _, h3⟩)
    · omega
    · refine ⟨h1, ?_⟩
      rw [Nat.two_mul, Nat.add_mod] at h3
      have := Nat.mod_lt s hm
      generalize s % q = r at *
      by_cases hr : r + r < q
      · rw [Nat.mod_eq_of_lt hr] at h3; omega
      · have : (r + r) % q = r + r - q := by
          rw [Nat.mod_eq_sub_mod (by walk_at "M.om"), Nat.mod_eq_of_lt (by walk_at "M.om")]
        omega
  · rintro ⟨h1, h2⟩
    refine .inr ⟨h1, by walk_at "M.om", ?_⟩
    rw [Nat.two_mul, Nat.add_mod, h2]; simp

theorem P_ne {P : Nat → Addr} {i j : Nat} {b : Bool} (h : b = true) (e : (decide (P i = P j)) = b) : P i = P j := of_decide_eq_true (e.trans h)
set_option maxHeartbeats 4000000 in
theorem ring_of_fn {w : World} {h₀ : Heap} {P : Nat → Addr} {T : Nat → Value} {a q : Nat} (hR : Ring g P T a q) :
    FN w h₀ (.ref 364) [.ref (P 0)] g [] 3 (fun v g' n' => n' = [] ∧ ∃ t, v = .ref t ∧ Tup g' t [.int a 0, .int q 0]) (fun _ _ => False) := by
  refine' FN.of (ps := ["value"]) (rest := ["slow", "fast", "ahead", "here", "many"]) (ds := []) ?ho ?hcd ?hb ?hl ?hn ?hnd ?hc ?hco ?hg ?hk ?h
  walk_at "M.ent"
  intro c hw hh hsc hk hn0 hcomp hcl hcd hnm G hb
  subst hw hh
  have hN := nilAt_of G hb
  dsimp only [List.zip, List.zipWith, List.map, List.append, HAppend.hAppend, Append.append]
  walk_at "M.go"
  have hq := hR.m0
  refine SX.while (fun k m1 g1 n1 => ∃ i, i + k = q * (a + 1) ∧ 0 < k ∧ n1 = [] ∧ m1 = [(("value" : Str), some (Value.ref (P 0))), (("slow" : Str), some (Value.ref (P i))), (("fast" : Str), some (Value.ref (P (2 * i)))), (("ahead" : Str), none), (("here" : Str), none), (("many" : Str), none)]) (q * (a + 1)) ⟨0, by walk_at "M.om", Nat.mul_pos hq (by walk_at "M.om"), rfl, rfl⟩ ?_
  rintro k m1 g1 n1 le1 ⟨i, hi, hk0, rfl, rfl⟩
  have hR1 := hR.le le1
  clear hR le1
  walk_at "M.go"
  have hmeet := meet (P := P) (Nat.succ_pos i) hq hR1.per
  rw [show 2 * (i + 1) = 2 * i + 1 + 1 from by omega] at hmeet
  refine ⟨fun hz => ?_, fun hz => ?_⟩
  · have hz := hmeet.mp (of_decide_eq_true hz)
    obtain ⟨hz1, hz2⟩ := hz
    walk_at "M.go"
    refine SX.while (fun k m1 g1 n1 => ∃ j, j + k = a ∧ n1 = [] ∧ m1 = [(("value" : Str), some (Value.ref (P 0))), (("slow" : Str), some (Value.ref (P (i + 1 + j)))), (("fast" : Str), some (Value.ref (P (2 * i + 1 + 1)))), (("ahead" : Str), some (Value.int j 0)), (("here" : Str), some (Value.ref (P j))), (("many" : Str), none)]) a ⟨0, by walk_at "M.om", rfl, rfl⟩ ?_
    rintro k2 m1 g2 n1 le1 ⟨j, hj, rfl, rfl⟩
    have hR2 := hR1.le le1
    clear hR1 le1
    walk_at "M.go"
    have hper := hR2.per j (i + 1 + j)
    have hmod : (i + 1 + j) % q = j % q := by rw [Nat.add_mod, hz2]; simp
    refine ⟨fun hz => ?_, fun hz => ?_⟩
    · walk_at "M.go"
      have : ¬ (P j = P (i + 1 + j)) := by simpa using hz
      have hja : j < a := by
        refine Nat.lt_of_not_le fun q1 => this (hper.mpr (.inr ⟨q1, by walk_at "M.om", hmod.symm⟩))
      exact ⟨k2 - 1, by walk_at "M.om", j + 1, by walk_at "M.om", rfl, rfl⟩
    · have : P j = P (i + 1 + j) := by simpa using hz
      have hja : j = a := by
        rcases hper.mp this with h | h
        · omega
        · omega
      subst hja
      clear hj
      walk_at "M.go"
      refine SX.while (fun k m1 g1 n1 => ∃ r, 0 < r ∧ r + k = q ∧ n1 = [] ∧ m1 = [(("value" : Str), some (Value.ref (P 0))), (("slow" : Str), some (Value.ref (P (j + r)))), (("fast" : Str), some (Value.ref (P (2 * i + 1 + 1)))), (("ahead" : Str), some (Value.int j 0)), (("here" : Str), some (Value.ref (P j))), (("many" : Str), some (Value.int r 0))]) (q - 1) ⟨1, by walk_at "M.om", by walk_at "M.om", rfl, rfl⟩ ?_
      rintro k3 m1 g3 n1 le1 ⟨r, hr0, hr, rfl, rfl⟩
      have hR3 := hR2.le le1
      clear hR2 le1
      walk_at "M.go"
      have hper := hR3.per (j + r) j
      refine ⟨fun hz => ?_, fun hz => ?_⟩
      · walk_at "M.go"
        have : ¬ (P (j + r) = P j) := by simpa using hz
        have : r ≠ q := fun e => this (hper.mpr (.inr ⟨by walk_at "M.om", by walk_at "M.om", by subst e; simp⟩))
        exact ⟨k3 - 1, by walk_at "M.om", r + 1, by walk_at "M.om", by walk_at "M.om", rfl, rfl⟩
      · have : P (j + r) = P j := by simpa using hz
        have hrq : r = q := by
          rcases hper.mp this with h | ⟨_, _, h⟩
          · omega
          · have h1 : (j + r) % q = (j + 0) % q := h
            have h2 : r % q = 0 % q := (by have := Nat.sub_mod_eq_zero_of_mod_eq h1; rw [Nat.add_sub_add_left] at this; simpa using this)
            rw [Nat.zero_mod] at h2
            have := Nat.dvd_of_mod_eq_zero h2
            have := Nat.le_of_dvd hr0 this
            omega
        subst hrq
        walk_at "M.go"
        intro t g4 le4 ht
        exact ⟨rfl, t, rfl, ht⟩
  · walk_at "M.go"
    have : ¬ (P (i + 1) = P (2 * i + 1 + 1)) := by simpa using hz
    have hne : i + 1 ≠ q * (a + 1) := fun e => this (hmeet.mpr ⟨by rw [show i.succ = q * (a + 1) from e]; calc a ≤ 1 * (a + 1) := by omega
                                                                     _ ≤ q * (a + 1) := Nat.mul_le_mul_right _ hq, by rw [show i.succ = q * (a + 1) from e]; simp⟩)
    exact ⟨k - 1, by walk_at "M.om", i + 1, by walk_at "M.om", by walk_at "M.om", rfl, by rw [show 2 * (i + 1) = 2 * i + 1 + 1 from by omega]⟩
end Mine

namespace Mine
variable {c : Cx} {m : Loc} {g : View} {n : Led} {Φ : Post} {Ψ : XPost} {F : FPost}

theorem St.claim {h : Heap} {a : Addr} {o : Obj} {P : Obj → Prop} (S : St c m g n h) (hg : g a = none) (hn : a ∉ addrs n) (hL : a ≠ c.L) (hf : a ∉ c.fs) (h0 : c.h0.get? a = none) (ho : h.get? a = some o) (hP : P o) : St c m g ((a, P) :: n) h :=
  { S with
    sits := ⟨S.sits.vw, fun p hp => by
        rcases List.mem_cons.mp hp with rfl | hp
        · exact ⟨o, ho, hP⟩
        · exact S.sits.ld p hp, fun b hb => by
        rcases List.mem_cons.mp hb with rfl | hb
        · exact hg
        · exact S.sits.off b hb, List.nodup_cons.mpr ⟨hn, S.sits.nd⟩⟩
    Ln := fun q => (List.mem_cons.mp q).elim (fun q => hL q.symm) S.Ln
    fn := fun b hb q => (List.mem_cons.mp q).elim (fun q => ne_of_in hb hf q) (S.fn b hb)
    nnew := fun b hb => by
      rcases List.mem_cons.mp hb with rfl | hb
      · exact .inr h0
      · exact S.nnew b hb }

def SA (c : Cx) (m : Loc) (g : View) (n : Led) (o : Value) (x : Str) (v : Value) (K : View → Led → Prop) (Ψ : XPost) : Prop := ∀ o' v', Is o o' → Is v v' → DO c m g n (setAttr o' x v') (fun _ => K) Ψ
abbrev kSA2 (c : Cx) (m : Loc) (x : Str) (v : Value) (rest : List Stmt) (F : FPost) (Ψ : XPost) : Post := fun u g n => SA c m g n u x v (kSx c m rest F Ψ) Ψ
abbrev kSA (c : Cx) (m : Loc) (o : Expr) (x : Str) (rest : List Stmt) (F : FPost) (Ψ : XPost) : Post := fun v g n => EX c m g n o (kSA2 c m x v rest F Ψ) Ψ
theorem SX.setA {o value : Expr} {x : Str} {pos' pos : Pos} {rest : List Stmt} (h : EX c m g n value (kSA c m o x rest F Ψ) Ψ)
    (hs : swapsWith value (some (.Attribute o x pos')) pos.line c.env = pure false := by rfl) : SX c m g n (.Assign [.Attribute o x pos'] value pos :: rest) F Ψ :=
  SX.cons fun s Q E S hQ hE => plainObj_wpAny_Assign_Attribute (h s _ E S (fun a g1 n1 h1 tk z le S1 => by
    obtain ⟨v, hv, k⟩ := z
    refine k { s with heap := h1, toks := tk } _ E S1 (fun b g2 n2 h2 tk2 z le2 S2 => ?_) fun x g' n' h' tk' z le' S' X => hE x m g' n' h' tk' z (le.trans le') S' X
    obtain ⟨u, hu, k⟩ := z
    exact k b a hu hv { s with heap := h2, toks := tk2 } _ E S2 (fun _ g3 n3 h3 tk3 z le3 S3 => hQ .next .next m g3 n3 h3 tk3 z .next ((le.trans le2).trans le3) S3) fun x g' n' h' tk' z le' S' X => hE x m g' n' h' tk' z ((le.trans le2).trans le') S' X)
    fun x g' n' h' tk z le S' X => hE x m g' n' h' tk z le S' X) hs
def setF (x : Str) (v : Value) : List (Str × Value) → List (Str × Value)
  | [] => [(x, v)]
  | p :: r => if x == p.1 then (x, v) :: r else p :: setF x v r
theorem setF_names {x : Str} {v : Value} : ∀ {fs : List (Str × Value)} {y : Str}, (y = x ∨ y ∈ fs.map (·.1)) → y ∈ (setF x v fs).map (·.1)
  | [], y, h => by rcases h with rfl | h; exact .head _; cases h
  | p :: r, y, h => by
    unfold setF
    split
    · rename_i q
      have q : x = p.1 := beq_iff_eq.mp q
      rcases h with rfl | h
      · exact .head _
      · rcases List.mem_cons.mp h with e | h
        · rw [e]; show p.1 ∈ _; rw [← q]; exact .head _
        · exact .tail _ h
    · rcases h with rfl | h
      · exact .tail _ (setF_names (.inl rfl))
      · rcases List.mem_cons.mp h with e | h
        · rw [e]; exact .head _
        · exact .tail _ (setF_names (.inr h))
theorem setF_look {x : Str} {v : Value} : ∀ {fs : List (Str × Value)} {y : Str}, (setF x v fs).lookup y = if y = x then some v else fs.lookup y
  | [], y => by
    show (match y == x with | true => some v | false => _) = _
    by_cases q : y = x
    · rw [if_pos q, beq_iff_eq.mpr q]
    · rw [if_neg q, beq_eq_false_iff_ne.mpr q]
  | p :: r, y => by
    unfold setF
    split
    · rename_i q
      have q : x = p.1 := beq_iff_eq.mp q
      obtain ⟨p1, p2⟩ := p
      dsimp only at q; subst q
      rw [List.lookup_cons, List.lookup_cons]
      by_cases z : y = x
      · rw [if_pos z, beq_iff_eq.mpr z]
      · rw [if_neg z, beq_eq_false_iff_ne.mpr z]
    · rename_i q
      obtain ⟨p1, p2⟩ := p
      have q : x ≠ p1 := by simpa using q
      rw [List.lookup_cons, List.lookup_cons, setF_look]
      by_cases z : y = x
      · subst z; rw [if_pos rfl, if_pos rfl, beq_eq_false_iff_ne.mpr q]
      · rw [if_neg z, if_neg z]

def nsClear (o : Obj) (x : Str) : Bool := match o.data with
  | .dict es _ => es.toList.all (fun e => match e.key with | .str .. => true | _ => false) && (nsFind es "__setattr__").isNone && (nsFind es x).isNone
  | _ => false
theorem nsClear_of {h : Heap} {N : Addr} {o : Obj} {x : Str} (ho : h.get? N = some o) (hc : nsClear o x = true) : ∃ mN, h.Ns N mN ∧ mN "__setattr__" = none ∧ mN x = none := by
  unfold nsClear at hc
  split at hc
  · rename_i es ep hd
    simp only [Bool.and_eq_true, Option.isNone_iff_eq_none, List.all_eq_true] at hc
    obtain ⟨⟨h1, h2⟩, h3⟩ := hc
    refine ⟨fun nm => nsFind es nm, ⟨o, es, ep, ho, hd, fun e he => ?_, fun _ => rfl⟩, h2, h3⟩
    have := h1 e (Array.mem_toList_iff.mpr he)
    split at this
    · rename_i q; exact ⟨_, _, q⟩
    · cases this
  · cases hc
section
variable {nm q : Str} {C N x : Addr} {bs bm : List Value} {sn : List Str} {sub : List Value} {ab : Bool} {col : Option Bool} {dd : Option Addr} {k0 k1 k2 k3 k5 : Option Value} {B newId sa owner : String} {oN : Obj} {name : Str}
theorem Obj.ext4 {o o' : Obj} (h1 : o.cls = o'.cls) (h2 : o.dict = o'.dict) (h3 : o.data = o'.data) (h4 : o.slots = o'.slots) : o = o' := by
  obtain ⟨_, _, _, _⟩ := o; obtain ⟨_, _, _, _⟩ := o'; cases h1; cases h2; cases h3; cases h4; rfl
theorem DicM.set {h : Heap} {d : Addr} {fs : List (Str × Value)} {mA : Str → Option Value} {u v : Value} (hu : Is u v) (hh : handedIn u = true) (hw : Within mA (fs.map (·.1))) (hl : ∀ x u, fs.lookup x = some u → ∃ v, mA x = some v ∧ Is u v ∧ handedIn u = true)
    (x : h.Ns1 d (fun y => if y = name then some v else mA y)) : ∃ o, h.get? d = some o ∧ DicM (setF name u fs) o := by
  obtain ⟨o, es, ep, e1, e2, e3, e4, e5⟩ := x
  refine ⟨o, e1, es, ep, _, e2, e3, e4, e5, fun y hy => ?_, fun y w hy => ?_⟩
  · dsimp only at hy
    split at hy
    · rename_i q; exact setF_names (.inl q)
    · exact setF_names (.inr (hw y hy))
  · rw [setF_look] at hy
    split at hy
    · rename_i q
      cases hy
      exact ⟨v, if_pos q, hu, hh⟩
    · rename_i q
      rw [if_neg q]
      exact hl y w hy
theorem SA.own {d : Addr} {ox : Obj} {fs : List (Str × Value)} {v : Value} {K : View → Led → Prop} {n' : Led} (SF : StoreFacts B bm sa owner)
    (hC : (KK c.w).lookup C = some (excClassObj nm q C N bs bm true sn sub ab col dd k0 k1 k2 k3 k5 newId)) (hN : (KK c.w).lookup N = some oN) (hc : nsClear oN name = true) (hB : typeLookup (.type B) name = pure none)
    (hx : g x = some ox ∨ ∃ P, (x, P) ∈ n ∧ ∀ o, P o → o = ox) (hcls : ox.cls = .ref C) (hdata : ∀ cd, ox.data ≠ .cls cd) (hdata' : ∀ es ep, ox.data ≠ .dict es ep) (hdict : ox.dict = some d) (U : Swap d (DicM fs) (DicM (setF name v fs)) n n') (hle : (fs.map (·.1)).length ≤ 1000) (hh : handedIn v = true) (h : K g n') :
    SA c m g n (.ref x) name v K Ψ := fun o' v' ho hv s Q E S hQ hE => by
  obtain rfl := ho.ref
  obtain ⟨od, hd0, es, ep, mA, hd, hk, hu, hf, hw, hl⟩ := S.sits.ld _ U.mem
  dsimp only at hd0
  obtain ⟨mN, hNs, hns, hna⟩ := nsClear_of (S.K _ _ hN) hc
  have hxd : s.heap.get? x = some ox := by
    rcases hx with hx | ⟨P, hP, hx⟩
    · exact S.sits.vw _ _ hx
    · obtain ⟨o, a, b⟩ := S.sits.ld _ hP
      exact (hx o b) ▸ a
  have hne : d ≠ x := fun e => by
    rw [e, hxd] at hd0
    cases hd0
    exact hdata' _ _ hd
  have hxC : x ≠ C := fun e => by
    rw [e, S.K _ _ hC] at hxd
    cases hxd
    exact hdata _ rfl
  obtain ⟨hp, gg, dr, tk, os⟩ := s
  refine store_attr (mA := mA) SF (S.K _ _ hC) hNs hns hna hB hxC ⟨ox, hxd, hcls, hdata, .inr ⟨d, hdict, hne, od, es, ep, hd0, hd, hk, hu, hf⟩⟩ (fun h' tk' I' hkeep hsame => ?_) hw (by rw [sizeLine_eq]; omega)
  have hx' : h'.get? x = some ox := by
    obtain ⟨o₁, a, b1, b2, b3, b4⟩ := hsame ox hxd
    rw [a, Obj.ext4 b1 ((b4 d hdict).trans hdict.symm) b2 b3]
  have other : ∀ b o, b ≠ d → hp.get? b = some o → h'.get? b = some o := fun b o hb e => by
    by_cases q : b = x
    · subst q; rw [hxd] at e; cases e; exact hx'
    · exact hkeep b o q (fun o₀ dx h₀ e₀ => by rw [hxd] at h₀; cases h₀; rw [hdict] at e₀; cases e₀; exact hb) e
  obtain ⟨ox', hox', _, _, hdd⟩ := I'
  rw [hx'] at hox'; cases hox'
  obtain ⟨hn0, _⟩ | ⟨d', hd', _, hns1⟩ := hdd
  · rw [hdict] at hn0; cases hn0
  · rw [hdict] at hd'; cases hd'
    obtain ⟨o', ho', hP'⟩ := DicM.set hv hh hw hl hns1
    exact hQ () g n' h' tk' h (Le.rfl' g) (S.swap' U other ho' hP')
abbrev excO (C t : Addr) (dd : Option Addr) : Obj := { cls := .ref C, dict := dd, data := .fields #[.ref t, .none, .none, .none, .bool false, .none] }
theorem ownStream_pass (a x : Addr) : ownStreamTells (.ref x) (.ref a) = pure () := rfl
theorem store_first {M : Model} {A : Around} {E : Value → Shared → Prop} {h : Heap} {gg : Array GenState} {dr : Drawn} {tk : Nat} {os : OsState} {t : Addr} {v : Value} {tn : Tok} {b : Bool} {Q : Fin → Shared → Prop} 
    (hCl : h.get? C = some (excClassObj nm q C N bs bm true sn sub ab col dd k0 k1 k2 k3 k5 newId)) (hx : h.get? x = some (excO C t none)) (hxs : x ≠ h.objs.size)
    (hq : ∀ h' tk', h'.Ns1 h.objs.size (fun y => if y = name then some v else none) → (∀ b o, b ≠ x → h.get? b = some o → h'.get? b = some o) → h'.get? x = some (excO C t (some h.objs.size)) → Q (.done (.ret .none)) ⟨h', gg, dr, tk', os⟩) :
    wpAny M A (Builtin.ObjectAttr.storeInOwnDict (.ref x) (.ref C) (.str name tn) name v b) Q E ⟨h, gg, dr, tk, os⟩ := by
  unfold Builtin.ObjectAttr.storeInOwnDict
  refine wpAny_bind (wpAny_pure ?_)
  show wpAny M A (Builtin.ObjectAttr.ownDictForStores (.ref x) >>= _) Q E _
  refine wpAny_bind ?_
  show wpAny M A (instanceDict x true) _ E _
  unfold instanceDict
  iterate 12 (first | with_reducible refine wpAny_loadPart_at hx ?_ | with_reducible refine wpAny_loadPart_at hCl ?_ | wp_step)
  have hx₁ := Heap.get?_push_of_some { cls := .type "dict", data := .dict #[] } hx
  refine wpAny_update' hx₁ ?_
  refine wpAny_pure ?_
  show wpAny M A (Builtin.ObjectAttr.storeInDict h.objs.size (.str name tn) name v) Q E _
  generalize hh₁ : (h.push { cls := .type "dict", data := .dict #[] }).update x (fun o => { cls := o.cls, dict := some h.objs.size, data := o.data, slots := o.slots }) = h₁
  have hsb : Heap.SameBut x (h.push { cls := .type "dict", data := .dict #[] }) h₁ := hh₁ ▸ Heap.SameBut.update _ _ _
  have hd : h₁.get? h.objs.size = some { cls := .type "dict", data := .dict #[] } := (hsb.2 _ hxs.symm).trans (Heap.get?_push_size h rfl)
  have hx₂ : h₁.get? x = some (excO C t (some h.objs.size)) := by rw [← hh₁]; exact Heap.get?_update_self _ hx₁ rfl
  have ns : h₁.Ns1 h.objs.size (fun _ => none) := .of_empty ⟨_, #[], _, hd, rfl, fun e he => absurd he (by simp), fun _ => rfl⟩
  unfold Builtin.ObjectAttr.storeInDict Builtin.ObjectAttr.newKeyGuard
  refine wpAny_bind (wpAny_pure (wpAny_bind (wpAny_nsSet1 ns fun h' hn' hs => ?_)))
  obtain ⟨oD, esD, epD, hoD, hdD, hcD⟩ := hn'.count (Within.cons name v Within.nil)
  refine wpAny_bind (wpAny_lookBehind hoD (by rw [hdD]; exact pastItsLine_dict (Nat.le_trans hcD (by rw [List.length_cons, List.length_nil, sizeLine_eq]; omega))) ?_)
  exact wpAny_pure (hq h' _ hn' (fun b o hb e => (hs.2 b (Nat.ne_of_lt (Heap.lt_size e))).trans ((hsb.2 b hb).trans (Heap.get?_push_of_some _ e))) ((hs.2 x hxs).trans hx₂))
theorem SA.first {t : Addr} {v : Value} {K : View → Led → Prop} {n' : Addr → Led} (SF : StoreFacts B bm sa owner)
    (hC : (KK c.w).lookup C = some (excClassObj nm q C N bs bm true sn sub ab col dd k0 k1 k2 k3 k5 newId)) (hN : (KK c.w).lookup N = some oN) (hc : nsClear oN name = true) (hB : typeLookup (.type B) name = pure none)
    (U : ∀ d, Swap x (fun o => o = excO C t none) (fun o => o = excO C t (some d)) n (n' d)) (hh : handedIn v = true) (h : ∀ d, c.h0.get? d = none → K g ((d, DicM [(name, v)]) :: n' d)) :
    SA c m g n (.ref x) name v K Ψ := fun o' v' ho hv s Q E S hQ hE => by
  obtain rfl := ho.ref
  obtain ⟨hp, gg, dr, tk, os⟩ := s
  obtain ⟨ox, hx, rfl⟩ := S.sits.ld _ (U 0).mem
  dsimp only at hx
  obtain ⟨mN, hNs, hns, hna⟩ := nsClear_of (S.K _ _ hN) hc
  have hCl := S.K _ _ hC
  have f3 := SF.slot.bind (.ref x)
  have hpass := SF.passes (.ref x)
  have hxs : x ≠ hp.objs.size := Nat.ne_of_lt (Heap.lt_size hx)
  unfold setAttr callSpecial? specialOf
  repeat (any_goals (first | assumption | with_reducible refine wpAny_loadPart_at hx ?_ | (with_reducible refine wpAny_typeLookup_exc hCl hNs SF.mro SF.slot.lookup ?_; rw [hns]) | wp_step))
  refine codeAny_call_builtin SF.slot.plain SF.entry (wpAny_check_sa SF hCl hx rfl ?_)
  show wpAny _ _ (Builtin.«object.__setattr__» ⟨[.ref x, .str name tk, v'], []⟩) _ _ _
  rw [osa_eq, refuse_eq]
  repeat (first | (rw [refuseLoop_ref, hpass]) | with_reducible refine wpAny_loadPart_at hx ?_ | with_reducible refine wpAny_mroOf_exc hCl ?_ | (with_reducible refine wpAny_typeLookup_exc hCl hNs SF.mro hB ?_; rw [hna]) | with_reducible refine store_first hCl hx hxs fun h' tk' hn' hk' hx' => ?_ | wp_step)
  have hnone := Heap.get?_fresh hp
  have hxm := (U hp.objs.size).in_addrs
  have S' := S.swap' (U hp.objs.size) hk' hx' rfl
  obtain ⟨o', ho', hP'⟩ := DicM.set (fs := []) (mA := fun _ => none) hv hh Within.nil (fun x u e => by cases e) hn'
  refine hQ () g _ h' tk' (h _ (S.keep.old hnone)) (Le.rfl' g) (S'.claim (S.notin_g hnone) (fun q => S.notin_n hnone ((U hp.objs.size).addrs ▸ q)) (S.ne_L hnone) (S.notin_fs hnone) (S.keep.old hnone) ho' hP')
end
theorem under_make {A : Around} {C : Addr} {vs : List Value} {kw : List (Str × Value)} {l : List Env} {k : Nat} (hA : A.frames = some l) (hh : A.handled = none) (hr : Room A (k + 1)) :
    (A.under (.builtin "type.__call__" ⟨.ref C :: vs, kw⟩)).frames = some l ∧ (A.under (.builtin "type.__call__" ⟨.ref C :: vs, kw⟩)).handled = none ∧ Room (A.under (.builtin "type.__call__" ⟨.ref C :: vs, kw⟩)) k := by
  refine ⟨?_, hh, ?_, ?_⟩
  · show pushEnvs [] A.frames = some l
    rw [hA]; rfl
  · have := hr.1; show A.depth + 1 + k ≤ 700; omega
  · have := hr.2
    have e : (Code.builtin "type.__call__" ⟨.ref C :: vs, kw⟩).cUnits ≤ 20 := by show (_ : Nat) ≤ 20; exact Nat.le_of_ble_eq_true rfl
    show A.units + (Code.builtin "type.__call__" ⟨.ref C :: vs, kw⟩).cUnits + 20 * k ≤ 5000
    omega
theorem CA.make {C fI : Addr} {vs : List Value} {fs : List (Str × Value)} {k : Nat} (hm : makesIn (KK c.w) C = true) (hi : findIn (KK c.w) (.ref C) "__init__" = some (some (.ref fI))) (hf : typeIn (KK c.w) (.ref fI) = some (.type "function")) (hk : k + 1 ≤ c.k)
    (F : ∀ x d g1, g1 x = some (instObj C d) → Le g g1 → FN c.w c.h₀ (.ref fI) (.ref x :: vs) g1 [(d, DicM [])] k (fun v g' n' => v = .none ∧ n' = [(d, DicM fs)]) (fun _ _ => False))
    (h : ∀ x d g1, Le g g1 → g1 x = some (instObj C d) → c.h0.get? d = none → g x = none → Φ (.ref x) g1 ((d, DicM fs) :: n)) : CA c m g n (.ref C) vs Φ Ψ := fun vs' hv s Q E S hQ hE => by
  obtain ⟨hh, gg, dr, tk, os⟩ := s
  refine wpAny_call (make_core (makes_of S.K hm) (looks_findIn S.K hi) (fun self => bind_fn S.K self hf) (.inl rfl) ?_)
  have S1 := S.newOwn (P := DicM []) emptyDict ⟨#[], _, fun _ => none, rfl, fun e he => absurd he (by simp), by unfold UniqKeys; exact .nil, fun _ => rfl, Within.nil, fun x u e => by cases e⟩
  obtain ⟨S2, le2⟩ := S1.newObj (instObj C hh.objs.size)
  rw [Heap.size_push] at S2 le2
  have hx : (gset g (hh.objs.size + 1) (instObj C hh.objs.size)) (hh.objs.size + 1) = some (instObj C hh.objs.size) := gset_self
  obtain ⟨u1, u2, u3⟩ := under_make (C := C) (vs := vs') (kw := []) S.hA S.hh (S.room.le hk)
  refine useFn (pre := []) (nc := [(hh.objs.size, DicM [])]) (post := n) (s := ⟨(hh.push emptyDict).push (instObj C hh.objs.size), gg, dr, tk, os⟩) u1 u2 u3 (F _ _ _ hx le2) S2 (.cons rfl hv) (fun v v' g' n' h' tk' z hv' le fr S' => ?_) fun x g' n' h' tk' z le S' X => z.elim
  obtain ⟨rfl, rfl⟩ := z
  obtain rfl := hv'.none
  exact ⟨rfl, hQ _ _ _ h' tk' ⟨_, Is.rfl' _, h _ _ _ (le2.trans le) (le _ _ hx) (S.keep.old (Heap.get?_fresh _)) (S1.notin_g (by have := Heap.get?_fresh (hh.push emptyDict); rwa [Heap.size_push] at this))⟩ (le2.trans le) S'⟩
theorem Tup1000 : True := trivial
theorem CA.sig {vs : List Value} {d0 : List (Str × Value)} {k : Nat} {nm q : Str} {N : Addr} {sn : List Str} {sub bs : List Value} {ab : Bool} {col : Option Bool} {dd : Option Addr} {k0 k1 k2 k3 k5 : Option Value} {oN : Obj}
    (hC : (KK c.w).lookup SIG = some (excClassObj nm q SIG N bs [.type "Exception", .type "BaseException", .type "object"] true sn sub ab col dd k0 k1 k2 k3 k5 "Exception.__new__")) (hN : (KK c.w).lookup N = some oN)
    (hc : ∃ es ep, oN.data = .dict es ep ∧ (es.toList.all (fun e => match e.key with | .str .. => true | _ => false)) = true ∧ nsFind es "__init__" = some (.ref 35))
    (hf : ∃ oI, (KK c.w).lookup 35 = some oI ∧ oI.cls = .type "function") (hk : k + 1 ≤ c.k) (hl : vs.length ≤ 1000)
    (F : ∀ x t, FN c.w c.h₀ (.ref 35) (.ref x :: vs) g [(x, fun o => o = excO SIG t none)] k (fun v g' n' => v = .none ∧ ∃ d, n' = [(d, DicM d0), (x, fun o => o = excO SIG t (some d))]) (fun _ _ => False))
    (h : ∀ x d t g1, Le g g1 → c.h0.get? d = none → c.h0.get? x = none → Φ (.ref x) g1 ((d, DicM d0) :: (x, fun o => o = excO SIG t (some d)) :: n)) : CA c m g n (.ref SIG) vs Φ Ψ := fun vs' hv s Q E S hQ hE => by
  obtain ⟨hh, gg, dr, tk, os⟩ := s
  obtain ⟨es, ep, hd, hall, hini⟩ := hc
  obtain ⟨oI, hI, hIc⟩ := hf
  have hNs : hh.Ns N (fun nm => nsFind es nm) := ⟨oN, es, ep, S.K _ _ hN, hd, (fun e he => by
    have := List.all_eq_true.mp hall e (Array.mem_toList_iff.mpr he)
    split at this
    · rename_i z; exact ⟨_, _, z⟩
    · cases this), fun _ => rfl⟩
  refine wpAny_call_exc_init PySem.F.excBase_Exception (S.K _ _ hC) hNs hini (S.K _ _ hI) hIc (fun h' e hm => ?_) (by rw [sizeLine_eq, ← hv.length]; omega)
  obtain ⟨t, he, ht0, ht⟩ := hm.there
  have S1 : St c m g n h' := S.grow hm.keeps
  have S2 := S.own (P := fun o => o = excO SIG t none) hm.keeps hm.new he rfl
  obtain ⟨u1, u2, u3⟩ := under_make (C := SIG) (vs := vs') (kw := []) S.hA S.hh (S.room.le hk)
  refine wpAny_call (useFn (pre := []) (nc := [(e, fun o => o = excO SIG t none)]) (post := n) (s := ⟨h', gg, dr, tk, os⟩) u1 u2 u3 (F e t) S2 (.cons rfl hv) (fun v v' g' n' h'' tk' z hv' le fr S' => ?_) fun x g' n' h' tk' z le S' X => z.elim)
  obtain ⟨rfl, d, rfl⟩ := z
  obtain rfl := hv'.none
  have hd0 : c.h0.get? d = none := (fr d (.head _)).elim (fun q => by rw [List.mem_singleton.mp q]; exact S.keep.old hm.new) id
  exact ⟨rfl, hQ _ _ _ h'' tk' ⟨_, Is.rfl' _, h _ _ _ _ le hd0 (S.keep.old hm.new)⟩ le S'⟩
end Mine

namespace Mine
variable {c : Cx} {m : Loc} {g : View} {n : Led} {Φ : Post} {Ψ : XPost} {F : FPost}

local macro_rules | `(tactic| walk_at "M.sa") => `(tactic| ((case hC => walk_at "M.is"); (case hN => walk_at "M.is"); (case hc => kernel_rfl); (case hB => rw [typeLookup_type, builtinLookup_eq_fast]; kernel_rfl)))
theorem cons_init_fn {w : World} {h₀ : Heap} {x d : Addr} {u v : Value} (hx : g x = some (instObj 82 d)) (hu : handedIn u = true) (hv : handedIn v = true) :
    FN w h₀ (.ref 79) [.ref x, u, v] g [(d, DicM [])] 1 (fun r g' n' => r = .none ∧ n' = [(d, DicM (celF u v))]) (fun _ _ => False) := by
  refine' FN.of (ps := ["self", "car", "cdr"]) (rest := []) (ds := []) ?ho ?hcd ?hb ?hl ?hn ?hnd ?hc ?hco ?hg ?hk ?h
  walk_at "M.ent"
  intro c hw hh hsc hk hn0 hcomp hcl hcd hnm G hb
  subst hw hh
  dsimp only [List.zip, List.zipWith, List.map, List.append, HAppend.hAppend, Append.append]
  refine SX.setA ?_
  walk_at "M.go"
  refine' SA.own (C := 82) (d := d) (fs := []) PySem.F.store_object ?hC ?hN ?hc ?hB (.inl hx) rfl (by intro _ q; cases q) (by intro _ _ q; cases q) rfl .head (Nat.zero_le _) hu ?_
  walk_at "M.sa"
  refine SX.setA ?_
  walk_at "M.go"
  refine' SA.own (C := 82) (d := d) PySem.F.store_object ?hC ?hN ?hc ?hB (.inl hx) rfl (by intro _ q; cases q) (by intro _ _ q; cases q) rfl .head (Nat.le_of_ble_eq_true rfl) hv ?_
  walk_at "M.sa"
  walk_at "M.go"
  exact ⟨rfl, rfl⟩
theorem sig_init_fn {w : World} {h₀ : Heap} {x t : Addr} {u v : Value} (hu : handedIn u = true) (hv : handedIn v = true) :
    FN w h₀ (.ref 35) [.ref x, u, v] g [(x, fun o => o = excO SIG t none)] 1 (fun r g' n' => r = .none ∧ ∃ d, n' = [(d, DicM [("symbol", u), ("data", v)]), (x, fun o => o = excO SIG t (some d))]) (fun _ _ => False) := by
  refine' FN.of (ps := ["self", "symbol", "data"]) (rest := []) (ds := []) ?ho ?hcd ?hb ?hl ?hn ?hnd ?hc ?hco ?hg ?hk ?h
  walk_at "M.ent"
  intro c hw hh hsc hk hn0 hcomp hcl hcd hnm G hb
  subst hw hh
  dsimp only [List.zip, List.zipWith, List.map, List.append, HAppend.hAppend, Append.append]
  refine SX.setA ?_
  walk_at "M.go"
  refine' SA.first (C := SIG) (t := t) (n' := fun d => [(x, fun o => o = excO SIG t (some d))]) PySem.F.store_Exception ?hC ?hN ?hc ?hB (fun _ => .head) hu ?_
  walk_at "M.sa"
  intro d hd
  refine SX.setA ?_
  walk_at "M.go"
  refine' SA.own (C := SIG) (d := d) (ox := excO SIG t (some d)) PySem.F.store_Exception ?hC ?hN ?hc ?hB (.inr ⟨_, .tail _ (.head _), fun _ e => e⟩) rfl (by intro _ q; cases q) (by intro _ _ q; cases q) rfl .head (Nat.le_of_ble_eq_true rfl) hv ?_
  walk_at "M.sa"
  walk_at "M.go"
  exact ⟨rfl, d, rfl⟩
abbrev taskF (a b dp : Value) : List (Str × Value) := [("left", a), ("right", b), ("deep", dp), ("turn", .int 0 0), ("slow_left", a), ("slow_right", b)]
theorem task_init_fn {w : World} {h₀ : Heap} {x d : Addr} {u v dp : Value} (hx : g x = some (instObj 334 d)) (hu : handedIn u = true) (hv : handedIn v = true) (hdp : handedIn dp = true) :
    FN w h₀ (.ref 317) [.ref x, u, v, dp] g [(d, DicM [])] 1 (fun r g' n' => r = .none ∧ n' = [(d, DicM (taskF u v dp))]) (fun _ _ => False) := by
  refine' FN.of (ps := ["self", "left", "right", "deep"]) (rest := []) (ds := []) ?ho ?hcd ?hb ?hl ?hn ?hnd ?hc ?hco ?hg ?hk ?h
  walk_at "M.ent"
  intro c hw hh hsc hk hn0 hcomp hcl hcd hnm G hb
  subst hw hh
  dsimp only [List.zip, List.zipWith, List.map, List.append, HAppend.hAppend, Append.append]
  refine SX.setA ?_
  walk_at "M.go"
  refine' SA.own (C := 334) (d := d) (fs := []) PySem.F.store_object ?hC ?hN ?hc ?hB (.inl hx) rfl (by intro _ q; cases q) (by intro _ _ q; cases q) rfl .head (Nat.zero_le _) hu ?_
  walk_at "M.sa"
  refine SX.setA ?_
  walk_at "M.go"
  refine' SA.own (C := 334) (d := d) PySem.F.store_object ?hC ?hN ?hc ?hB (.inl hx) rfl (by intro _ q; cases q) (by intro _ _ q; cases q) rfl .head (Nat.le_of_ble_eq_true rfl) hv ?_
  walk_at "M.sa"
  refine SX.setA ?_
  walk_at "M.go"
  refine' SA.own (C := 334) (d := d) PySem.F.store_object ?hC ?hN ?hc ?hB (.inl hx) rfl (by intro _ q; cases q) (by intro _ _ q; cases q) rfl .head (Nat.le_of_ble_eq_true rfl) hdp ?_
  walk_at "M.sa"
  refine SX.setA ?_
  walk_at "M.go"
  refine' SA.own (C := 334) (d := d) PySem.F.store_object ?hC ?hN ?hc ?hB (.inl hx) rfl (by intro _ q; cases q) (by intro _ _ q; cases q) rfl .head (Nat.le_of_ble_eq_true rfl) rfl ?_
  walk_at "M.sa"
  refine SX.setA ?_
  walk_at "M.go"
  refine' SA.own (C := 334) (d := d) PySem.F.store_object ?hC ?hN ?hc ?hB (.inl hx) rfl (by intro _ q; cases q) (by intro _ _ q; cases q) rfl .head (Nat.le_of_ble_eq_true rfl) hu ?_
  walk_at "M.sa"
  refine SX.setA ?_
  walk_at "M.go"
  refine' SA.own (C := 334) (d := d) PySem.F.store_object ?hC ?hN ?hc ?hB (.inl hx) rfl (by intro _ q; cases q) (by intro _ _ q; cases q) rfl .head (Nat.le_of_ble_eq_true rfl) hv ?_
  walk_at "M.sa"
  walk_at "M.go"
  exact ⟨rfl, rfl⟩
theorem CA.cons {u v : Value} (hu : handedIn u = true) (hv : handedIn v = true) (hk : 2 ≤ c.k) (h : ∀ x d g1, Le g g1 → g1 x = some (instObj CONS d) → c.h0.get? d = none → g x = none → Φ (.ref x) g1 ((d, DicM (celF u v)) :: n)) : CA c m g n (.ref 82) [u, v] Φ Ψ := by
  refine' CA.make (C := 82) (fI := 79) (k := 1) ?hm ?hi ?hf hk (fun x d g1 hx _ => cons_init_fn hx hu hv) h
  case hm => walk_at "M.is"
  case hi => walk_at "M.is"
  case hf => walk_at "M.is"
theorem CA.task {u v dp : Value} (hu : handedIn u = true) (hv : handedIn v = true) (hdp : handedIn dp = true) (hk : 2 ≤ c.k) (h : ∀ x d g1, Le g g1 → g1 x = some (instObj 334 d) → c.h0.get? d = none → g x = none → Φ (.ref x) g1 ((d, DicM (taskF u v dp)) :: n)) : CA c m g n (.ref 334) [u, v, dp] Φ Ψ := by
  refine' CA.make (C := 334) (fI := 317) (k := 1) ?hm ?hi ?hf hk (fun x d g1 hx _ => task_init_fn hx hu hv hdp) h
  case hm => walk_at "M.is"
  case hi => walk_at "M.is"
  case hf => walk_at "M.is"
theorem ex1 {o : Obj} {a : Addr} {w : World} (h : (KK w).lookup a = some o) (k : o.cls = .type "function") : ∃ o, (KK w).lookup a = some o ∧ o.cls = .type "function" := ⟨o, h, k⟩
theorem ex2 {o : Obj} {es : Array DictEntry} {ep : Nat} (h : o.data = .dict es ep) (k : (es.toList.all (fun e => match e.key with | .str .. => true | _ => false)) = true) (k' : nsFind es "__init__" = some (.ref 35)) :
    ∃ es ep, o.data = .dict es ep ∧ (es.toList.all (fun e => match e.key with | .str .. => true | _ => false)) = true ∧ nsFind es "__init__" = some (.ref 35) := ⟨es, ep, h, k, k'⟩
theorem CA.signal {u v : Value} (hu : handedIn u = true) (hv : handedIn v = true) (hk : 2 ≤ c.k)
    (h : ∀ x d t g1, Le g g1 → c.h0.get? d = none → c.h0.get? x = none → Φ (.ref x) g1 ((d, DicM [("symbol", u), ("data", v)]) :: (x, fun o => o = excO SIG t (some d)) :: n)) : CA c m g n (.ref 38) [u, v] Φ Ψ := by
  refine' CA.sig (k := 1) ?hC ?hN ?hc ?hf hk (Nat.le_of_ble_eq_true rfl) (fun x t => sig_init_fn hu hv) h
  case hC => walk_at "M.is"
  case hN => walk_at "M.is"
  case hc => exact ex2 rfl (by kernel_rfl) (by kernel_rfl)
  case hf => (refine' ex1 ?h1 ?h2; (case h1 => walk_at "M.is"); (case h2 => rfl))
section
variable {M : Model} {A : Around} {E : Value → Shared → Prop} {env : Env} {nm q : Str} {C N : Addr} {bs bm : List Value} {hdct : Bool} {sn : List Str} {sub : List Value} {ab : Bool} {col : Option Bool} {dd : Option Addr} {k0 k1 k2 k3 k5 : Option Value} {newId : String}
theorem raise_stmt {s : Shared} {x : Sem Value} {Q : Flow → Shared → Prop} (hbase : bm.contains (.type "BaseException") = true) (hh : A.handled = none)
    (h : wpAny M A x (fun v s₁ => ∃ e t d, v = .ref e ∧ s₁.heap.get? C = some (excClassObj nm q C N bs bm hdct sn sub ab col dd k0 k1 k2 k3 k5 newId) ∧ s₁.heap.get? e = some (excO C t (some d)) ∧ E (.ref e) s₁) E s) :
    wpAny M A (raiseStmt env (some x) none) Q E s := by
  have hcB : (Value.ref C :: bm).contains (.type "BaseException") = true := by rw [List.contains_cons, hbase, Bool.or_true]
  unfold raiseStmt
  refine wpAny_bind (wpAny_mono h (fun v s₁ h₁ => ?_) fun _ _ x => x)
  obtain ⟨e, t, d, rfl, hC, he, hE⟩ := h₁
  obtain ⟨hp, g, dr, tk, os⟩ := s₁
  repeat (first | with_reducible refine wpAny_loadPart_at he ?_ | with_reducible refine wpAny_loadPart_at hC ?_ | (with_reducible refine wpAny_isSubtype_exc hC ?_; rw [hcB]) | wp_step)
  exact wpAny_raiseNew_none hh hE
end
theorem SX.raise0 {e : Expr} {pos : Pos} {rest : List Stmt} {nm q : Str} {N : Addr} {sn : List Str} {sub bs bm : List Value} {hdct ab : Bool} {col : Option Bool} {dd : Option Addr} {k0 k1 k2 k3 k5 : Option Value} {newId : String}
    (hC : (KK c.w).lookup SIG = some (excClassObj nm q SIG N bs bm hdct sn sub ab col dd k0 k1 k2 k3 k5 newId)) (hbm : bm.contains (.type "BaseException") = true)
    (h : EX c m g n e (fun v g1 n1 => ∃ x t d n2 d0, v = .ref x ∧ n1 = (d, DicM d0) :: (x, fun o => o = excO SIG t (some d)) :: n2 ∧ c.h0.get? x = none ∧ c.h0.get? d = none ∧ (∃ tk, d0.lookup ("symbol" : Str) = some (.str "circular-list" tk)) ∧ ∀ g2, Le g1 g2 → Ψ g2 n2) Ψ) :
    SX c m g n (.Raise (some e) none pos :: rest) F Ψ := SX.cons fun s Q E S hQ hE => by
  show wpAny (model PR c.w) c.A (do standAt pos; raiseStmt c.env (some (do let v ← eval e c.env; standAt pos; pure v)) none) Q E s
  refine wpAny_bind (wpAny_standAt (raise_stmt (C := SIG) (nm := nm) (q := q) (N := N) (bs := bs) (bm := bm) (hdct := hdct) (sn := sn) (sub := sub) (ab := ab) (col := col) (dd := dd) (k0 := k0) (k1 := k1) (k2 := k2) (k3 := k3) (k5 := k5) (newId := newId) hbm S.hh (wpAny_bind (h s _ E S (fun a g1 n1 h1 tk z le S1 => wpAny_bind (wpAny_standAt (wpAny_pure ?_))) fun x g' n' h' tk z le S' X => hE x m g' n' h' tk z le S' X))))
  obtain ⟨v, hv, x, t, d, n2, d0, rfl, rfl, hx0, hd0, ⟨tk0, hsym⟩, k⟩ := z
  obtain rfl := hv.ref
  obtain ⟨od, hod, le2, S2⟩ := S1.freeze hd0
  obtain ⟨ox, hox, rfl⟩ := S2.sits.ld _ (.head _)
  dsimp only at hox
  refine ⟨x, t, d, rfl, S1.K _ _ hC, hox, hE x m _ n2 h1 tk (k _ le2) (le.trans le2) S2.drop ⟨none, .inl rfl, S2.sits.off x (.head _), fun q => ?_, (List.nodup_cons.mp S2.sits.nd).1, hx0, _, _, d, od, hox, rfl, rfl, rfl, gset_self, ?_, rfl⟩⟩
  · rcases List.mem_cons.mp q with q | q
    · exact S2.Ln (by rw [← q]; exact .head _)
    · exact S2.fn x q (.head _)
  · obtain ⟨es, ep, mA, e1, _, _, e2, _, e3⟩ := hod
    obtain ⟨v, f1, f2, _⟩ := e3 _ _ hsym
    obtain ⟨tk1, rfl⟩ := f2
    exact ⟨es, ep, tk1, e1, (e2 _).trans f1⟩
theorem SX.raise {es : List Expr} {e1 : Expr} {np cpos pos : Pos} {rest : List Stmt} (hk : 2 ≤ c.k) (hx : c.sc.names.lookup ("LispSignal" : Str) = some .globalImplicit)
    (h : AX c m g n cpos (e1 :: es) (fun vs g1 n1 => ∃ t v, vs = [.str "circular-list" t, v] ∧ handedIn v = true ∧ ∀ g2, Le g1 g2 → Ψ g2 n1) Ψ)
    (he : starEach (e1 :: es) c.env = (false, eval e1 c.env) :: starEach es c.env := by rfl) (hplain : (backTo cpos (starEach es c.env)).any (·.1) = false := by rfl)
    (hc : eval (.Call (.Name "LispSignal" np) (e1 :: es) [] cpos) c.env = (do callWith cpos (← eval (.Name "LispSignal" np) c.env) [] (backTo cpos (starEach (e1 :: es) c.env)) (backToKw cpos (keywordEach [] c.env))) := by rfl) :
    SX c m g n (.Raise (some (.Call (.Name "LispSignal" np) (e1 :: es) [] cpos)) none pos :: rest) F Ψ := by
  refine' SX.raise0 ?hC ?hbm ?_
  case hC => walk_at "M.is"
  case hbm => decide +kernel
  refine' EX.callK (f := 38) hx ?hg ?hk ?hd ?_ he hplain hc
  case hg => walk_at "M.is"
  case hk => walk_at "M.is"
  case hd => decide +kernel
  refine DO.mono h (fun vs' g1 n1 _ z => ?_) fun _ _ z => z
  obtain ⟨vs, hvs, t, v, rfl, hv, k⟩ := z
  exact ⟨_, hvs, CA.signal rfl hv hk fun x d t g1 le hd hx => ⟨x, t, d, _, _, rfl, rfl, hx, hd, ⟨_, rfl⟩, fun g2 le2 => k g2 (le.trans le2)⟩⟩
end Mine

namespace Mine
variable {c : Cx} {m : Loc} {g : View} {n : Led} {Φ : Post} {Ψ : XPost} {F : FPost}
def SB (c : Cx) (m : Loc) (g : View) (n : Led) (value slice : Expr) (o i : Value) (Φ : Post) (Ψ : XPost) : Prop := ∀ o' i', Is o o' → Is i i' → DO c m g n (subscriptTail value slice o' i') (Vp Φ) Ψ
abbrev kSB (c : Cx) (m : Loc) (value slice : Expr) (o : Value) (Φ : Post) (Ψ : XPost) : Post := fun i g n => SB c m g n value slice o i Φ Ψ
abbrev kSub (c : Cx) (m : Loc) (value slice : Expr) (Φ : Post) (Ψ : XPost) : Post := fun o g n => EX c m g n slice (kSB c m value slice o Φ Ψ) Ψ
theorem EX.subs {value slice : Expr} {pos : Pos} (h : EX c m g n value (kSub c m value slice Φ Ψ) Ψ) : EX c m g n (.Subscript value slice pos) Φ Ψ :=
  DO.of3 (f := fun o i => subscriptTail value slice o i) (DO.mono h (fun a g' n' _ z => let ⟨v, hv, k⟩ := z; ⟨v, hv, fun v' hv' => DO.mono k (fun b g'' n'' _ z => let ⟨w, hw, k⟩ := z; ⟨w, hw, fun w' hw' => k v' w' hv' hw'⟩) fun _ _ z => z⟩) fun _ _ z => z) fun h => Subscript_ h
def LAt (g : View) (n : Led) (l : Addr) (us : List Value) : Prop := Lst g l us ∨ (l, LstO us) ∈ n
theorem LAt.get {h : Heap} {l us} (x : LAt g n l us) (S : St c m g n h) : ∃ its k, h.get? l = some (listOf its k) ∧ AllIs us its.toList := by
  rcases x with ⟨o, e, its, k, rfl, q⟩ | x
  · exact ⟨its, k, S.sits.vw _ _ e, q⟩
  · obtain ⟨o, e, its, k, rfl, q⟩ := S.sits.ld _ x
    exact ⟨its, k, e, q⟩
theorem LAt.isL {h : Heap} {l us} (x : LAt g n l us) (S : St c m g n h) : ∃ its, h.IsList l its ∧ AllIs us its.toList ∧ us.length = its.size := by
  obtain ⟨its, k, e, q⟩ := x.get S
  exact ⟨its, ⟨_, e, rfl, k, rfl⟩, q, by rw [q.length]; simp⟩
theorem SB.lst {value slice : Expr} {l : Addr} {us : List Value} {k : Int} {t : Tok} {u : Value} (x : LAt g n l us) (h0 : 0 ≤ k) (hfit : k < 2 ^ 63) (hu : us[k.toNat]? = some u) (h : Φ u g n)
    (hs : ∀ u, subscripted slice false (.ref l) (.int k u) = operate [.ref l, .int k u] (getItem (.ref l) (.int k u)) := by intro _; with_unfolding_all rfl) : SB c m g n value slice (.ref l) (.int k t) Φ Ψ := fun o' i' ho hi => DO.val h fun s Q E S hQ => by
  obtain rfl := ho.ref; obtain ⟨t', rfl⟩ := hi.int
  obtain ⟨its, hL, hI, _⟩ := x.isL S
  obtain ⟨v, e, hv⟩ := hI.get hu
  exact tail_any hL.typeIs slot_list_getitem.lookup (wpAny_getItem_list hL h0 hfit (by rw [← Array.getElem?_toList]; exact e) (hQ v s.heap s.toks hv S)) (hs t')
theorem SB.lstN {value slice : Expr} {l : Addr} {us : List Value} {k : Int} {t : Tok} {u : Value} (x : LAt g n l us) (h0 : k < 0) (h1 : -(us.length : Int) ≤ k) (hfit : -(2 ^ 63) ≤ k) (hu : us[(k + us.length).toNat]? = some u) (h : Φ u g n)
    (hs : ∀ u, subscripted slice false (.ref l) (.int k u) = operate [.ref l, .int k u] (getItem (.ref l) (.int k u)) := by intro _; with_unfolding_all rfl) : SB c m g n value slice (.ref l) (.int k t) Φ Ψ := fun o' i' ho hi => DO.val h fun s Q E S hQ => by
  obtain rfl := ho.ref; obtain ⟨t', rfl⟩ := hi.int
  obtain ⟨its, hL, hI, e0⟩ := x.isL S
  obtain ⟨v, e, hv⟩ := hI.get hu
  rw [e0] at e h1
  exact tail_any hL.typeIs slot_list_getitem.lookup (wpAny_getItem_list_neg hL h0 h1 hfit (by rw [← Array.getElem?_toList]; exact e) (hQ v s.heap s.toks hv S)) (hs t')
theorem SB.tup {value slice : Expr} {l : Addr} {us : List Value} {k : Int} {t : Tok} {u : Value} {j : Nat} (x : Tup g l us) (hlo : -(2 ^ 63) ≤ k) (hhi : k < 2 ^ 63) (hj : seqIndex? k us.length = some j) (hu : us[j]? = some u) (h : Φ u g n)
    (hs : ∀ u, subscripted slice false (.ref l) (.int k u) = operate [.ref l, .int k u] (getItem (.ref l) (.int k u)) := by intro _; with_unfolding_all rfl) : SB c m g n value slice (.ref l) (.int k t) Φ Ψ := fun o' i' ho hi => DO.val h fun s Q E S hQ => by
  obtain rfl := ho.ref; obtain ⟨t', rfl⟩ := hi.int
  obtain ⟨its, hT, hI⟩ := x.isTup S
  obtain ⟨v, e, hv⟩ := hI.get hu
  exact tail_any hT.typeIs slot_tuple_getitem.lookup (getItem_tuple hT hlo hhi (by rw [show its.size = us.length from by rw [hI.length]; simp]; exact hj) (by rw [← Array.getElem?_toList]; exact e) (hQ v s.heap s.toks hv S)) (hs t')
theorem CA.len {l : Addr} {us : List Value} (x : LAt g n l us) (hfit : us.length ≤ 1000000) (h : Φ (.int us.length 0) g n) : CA c m g n (.builtin "len") [.ref l] Φ Ψ := fun vs' hv => DO.val h fun s Q E S hQ => by
  cases hv with | cons h1 h2 =>
    cases h2; obtain rfl := h1.ref
    obtain ⟨its, hL, hI, e0⟩ := x.isL S
    exact call_len_list hL (by walk_at "M.om") (hQ _ s.heap _ ⟨_, by rw [e0]⟩ S)
def FV (g : View) (f : Addr) : Prop := ∃ o fd, g f = some o ∧ o.data = .func fd
theorem FV.le {g g' : View} {f} (h : FV g f) (k : Le g g') : FV g' f := let ⟨o, fd, a, b⟩ := h; ⟨o, fd, k _ _ a, b⟩
abbrev kCF (c : Cx) (m : Loc) (pos : Pos) (es : List Expr) (Φ : Post) (Ψ : XPost) : Post := fun v g n => ∃ a, v = .ref a ∧ FV g a ∧ AX c m g n pos es (kCA c m (.ref a) Φ Ψ) Ψ
theorem EX.callF {f e : Expr} {es : List Expr} {pos : Pos} (h : EX c m g n f (kCF c m pos (e :: es) Φ Ψ) Ψ)
    (hc : eval (.Call f (e :: es) [] pos) c.env = (do callWith pos (← eval f c.env) [] (backTo pos (starEach (e :: es) c.env)) (backToKw pos (keywordEach [] c.env))) := by rfl)
    (he : starEach (e :: es) c.env = (false, eval e c.env) :: starEach es c.env := by rfl) (hplain : (backTo pos (starEach es c.env)).any (·.1) = false := by rfl) :
    EX c m g n (.Call f (e :: es) [] pos) Φ Ψ := fun s Q E S hQ hE => by
  refine Call_ (h s _ E S (fun v g1 n1 h1 tk z le S1 => ?_) hE) hc
  obtain ⟨u, hu, a, rfl, ⟨o, fd, hf, hd⟩, k⟩ := z
  obtain rfl := hu.ref
  have k' : DO c m g1 n1 (spliced (backTo pos (starEach (e :: es) c.env))) (fun vs' g' n' => ∃ vs, AllIs vs vs' ∧ CA c m g' n' (.ref a) vs Φ Ψ) Ψ := k
  rw [he] at k' ⊢
  refine callWith_of (P := fun h => h.get? a = some o) (keywords := []) (by show ((false || (backTo pos (starEach es c.env)).any (·.1)) || false) = false; rw [hplain]; rfl) (fun hh e => ⟨.frame, .inl rfl, (Looks.ld (part := none) e).andThen (by rw [hd]; exact .now)⟩) (evalArgs_plain ?_)
  refine k' { s with heap := h1, toks := tk } _ E S1 (fun vs' g2 n2 h2 tk2 z le2 S2 => ?_) fun x g' n' h' tk' z le' S' X => hE x g' n' h' tk' z (le.trans le') S' X
  obtain ⟨vs, hv, kk⟩ := z
  exact ⟨S2.sits.vw _ _ (le2 _ _ hf), kk vs' hv { s with heap := h2, toks := tk2 } Q E S2 (fun a' g' n' h' tk' z le' S' => hQ a' g' n' h' tk' z ((le.trans le2).trans le') S') fun x g' n' h' tk' z le' S' X => hE x g' n' h' tk' z ((le.trans le2).trans le') S' X⟩
def PlainIs (l : List Value) : Prop := ∀ vs, AllIs l vs → vs = l
theorem plain_nil : PlainIs [] := fun vs h => by cases h; rfl
theorem plain_ref {a : Addr} {l : List Value} (h : PlainIs l) : PlainIs (.ref a :: l) := fun vs k => by cases k with | cons h1 h2 => rw [h1.ref, h _ h2]
theorem plain_type {a : String} {l : List Value} (h : PlainIs l) : PlainIs (.type a :: l) := fun vs k => by cases k with | cons h1 h2 => rw [show _ = Value.type a from h1, h _ h2]
theorem CA.isT_inst {a C t : Addr} {fs} {us : List Value} {b : Bool} (hi : InstL g n a C fs) (ht : Tup g t us) (hp : PlainIs us) (hok : isiOK (KK c.w) C = true) (e : kitAny (KK c.w) (.ref C) us = some b) (h : Φ (.bool b) g n) : CA c m g n (.builtin "isinstance") [.ref a, .ref t] Φ Ψ := fun vs' hv => DO.val h fun s Q E S hQ => by
  cases hv with | cons h1 h2 => cases h2 with | cons h3 h4 =>
    cases h4; obtain rfl := h1.ref; obtain rfl := h3.ref
    obtain ⟨d, o, I, hE⟩ := hi.at S
    obtain ⟨ot, ho, its, k, rfl, hI⟩ := ht
    have := hp _ hI; subst this
    exact kia_tup (kitx_of_isiOK hok) S.K I (S.sits.vw _ _ ho) e (by intro q; cases q) fun tk => hQ _ s.heap tk (Is.rfl' _) S
theorem CA.isT_int {i : Int} {k0 : Tok} {t : Addr} {us : List Value} {b : Bool} (ht : Tup g t us) (hp : PlainIs us) (e : kitAny (KK c.w) (.type "int") us = some b) (h : Φ (.bool b) g n) : CA c m g n (.builtin "isinstance") [.int i k0, .ref t] Φ Ψ := fun vs' hv => DO.val h fun s Q E S hQ => by
  cases hv with | cons h1 h2 => cases h2 with | cons h3 h4 =>
    cases h4; obtain ⟨_, rfl⟩ := h1.int; obtain rfl := h3.ref
    obtain ⟨ot, ho, its, k, rfl, hI⟩ := ht
    have := hp _ hI; subst this
    exact kia_tup kitx_int S.K trivial (S.sits.vw _ _ ho) e (by intro q; cases q) fun tk => hQ _ s.heap tk (Is.rfl' _) S
abbrev kCM (c : Cx) (m : Loc) (f : Value) (l : Addr) (Φ : Post) (Ψ : XPost) : List Value → View → Led → Prop := fun vs g n => CA c m g n f (.ref l :: vs) Φ Ψ
abbrev kMe (c : Cx) (m : Loc) (f : Value) (pos : Pos) (es : List Expr) (Φ : Post) (Ψ : XPost) : Post := fun v g n => ∃ l us, v = .ref l ∧ LAt g n l us ∧ AX c m g n pos es (kCM c m f l Φ Ψ) Ψ
abbrev kMe0 (c : Cx) (m : Loc) (f : Value) (Φ : Post) (Ψ : XPost) : Post := fun v g n => ∃ l us, v = .ref l ∧ LAt g n l us ∧ CA c m g n f [.ref l] Φ Ψ
theorem EX.meth {o e : Expr} {es : List Expr} {name : Str} {apos pos : Pos} {id : String} {pl : Sem Bool} (slot : Slot "list" name id) (hty : typeOf (.builtin id) = pure (.type "method_descriptor"))
    (h : EX c m g n o (kMe c m (.builtin id) pos (e :: es) Φ Ψ) Ψ)
    (hc : eval (.Call (.Attribute o name apos) (e :: es) [] pos) c.env = (do
      let ov ← eval o c.env
      standAt apos.atName
      let (f, first) ← holding [ov] (getMethod ov name pl)
      callWith pos f first (backTo pos (starEach (e :: es) c.env)) []) := by rfl)
    (he : starEach (e :: es) c.env = (false, eval e c.env) :: starEach es c.env := by rfl) (hplain : (backTo pos (starEach es c.env)).any (·.1) = false := by rfl) : EX c m g n (.Call (.Attribute o name apos) (e :: es) [] pos) Φ Ψ := fun s Q E S hQ hE => by
  refine MethodCall_ (pl := pl) (h s _ E S (fun v g1 n1 h1 tk z le S1 => ?_) hE) hc
  obtain ⟨u, hu, l, us, rfl, x, k⟩ := z
  obtain rfl := hu.ref
  obtain ⟨its, kk, ho, _⟩ := x.get S1
  refine getMethod_builtin (s := { s with heap := h1, toks := tk }) ⟨_, ho, rfl⟩ PySem.F.plainAttrs_list slot hty (fun a e => by cases e; exact ⟨_, ho, rfl⟩) (callWith_method1 ?_ he hplain)
  have k' : DO c m g1 n1 (spliced (backTo pos (starEach (e :: es) c.env))) (fun vs' g' n' => ∃ vs, AllIs vs vs' ∧ CA c m g' n' (.builtin id) (.ref l :: vs) Φ Ψ) Ψ := k
  refine k' { s with heap := h1, toks := tk } _ E S1 (fun vs' g2 n2 h2 tk2 z le2 S2 => ?_) fun x g' n' h' tk' z le' S' X => hE x g' n' h' tk' z (le.trans le') S' X
  obtain ⟨vs, hv, kk⟩ := z
  exact kk (.ref l :: vs') (.cons rfl hv) { s with heap := h2, toks := tk2 } Q E S2 (fun a' g' n' h' tk' z le' S' => hQ a' g' n' h' tk' z ((le.trans le2).trans le') S') fun x g' n' h' tk' z le' S' X => hE x g' n' h' tk' z ((le.trans le2).trans le') S' X
theorem EX.meth0 {o : Expr} {name : Str} {apos pos : Pos} {id : String} {pl : Sem Bool} (slot : Slot "list" name id) (hty : typeOf (.builtin id) = pure (.type "method_descriptor"))
    (h : EX c m g n o (kMe0 c m (.builtin id) Φ Ψ) Ψ)
    (hc : eval (.Call (.Attribute o name apos) [] [] pos) c.env = (do
      let ov ← eval o c.env
      standAt apos.atName
      let (f, first) ← holding [ov] (getMethod ov name pl)
      callWith pos f first (backTo pos (starEach [] c.env)) []) := by rfl) : EX c m g n (.Call (.Attribute o name apos) [] [] pos) Φ Ψ := fun s Q E S hQ hE => by
  refine MethodCall_ (pl := pl) (h s _ E S (fun v g1 n1 h1 tk z le S1 => ?_) hE) hc
  obtain ⟨u, hu, l, us, rfl, x, k⟩ := z
  obtain rfl := hu.ref
  obtain ⟨its, kk, ho, _⟩ := x.get S1
  refine getMethod_builtin (s := { s with heap := h1, toks := tk }) ⟨_, ho, rfl⟩ PySem.F.plainAttrs_list slot hty (fun a e => by cases e; exact ⟨_, ho, rfl⟩) (callWith_method0 ?_)
  exact k [.ref l] (.cons rfl .nil) { s with heap := h1, toks := tk } Q E S1 (fun a' g' n' h' tk' z le' S' => hQ a' g' n' h' tk' z (le.trans le') S') fun x g' n' h' tk' z le' S' X => hE x g' n' h' tk' z (le.trans le') S' X
theorem CA.append {l : Addr} {us : List Value} {u : Value} {n' : Led} (U : Swap l (LstO us) (LstO (us ++ [u])) n n') (hsz : us.length ≤ 1000000) (h : Φ .none g n') : CA c m g n (.builtin "list.append") [.ref l, u] Φ Ψ := fun vs' hv s Q E S hQ hE => by
  cases hv with | cons h1 h2 => cases h2 with | cons h3 h4 =>
    cases h4; obtain rfl := h1.ref
    obtain ⟨o, ho, its, k, rfl, hI⟩ := S.sits.ld _ U.mem
    refine append_at ho (fun h' hs ho' => ?_) (by rw [sizeLine_eq, show its.size = us.length from by rw [hI.length]; simp]; omega)
    exact hQ .none g n' h' s.toks ⟨_, Is.rfl' _, h⟩ (Le.rfl' g) (S.swap U hs ho' ⟨_, _, rfl, by rw [Array.toList_push]; exact hI.append (.cons h3 .nil)⟩)
end Mine
namespace Mine
variable {c : Cx} {m : Loc} {g : View} {n : Led} {Φ : Post} {Ψ : XPost} {F : FPost}
theorem St.nil {h : Heap} (S : St c m g n h) : NilAt g := nilAt_of S.G S.base
theorem CO.cellNil {a : Addr} {fs} (hi : InstL g n a CONS fs) (h : Φ (.bool false) g n) : CO c m g n .Is (.ref a) (.ref NIL) Φ Ψ := fun u' v' hu hv s Q E S =>
  CO.is (n := n) (InstL.nt hi) S.nil.nt.th (by rw [decide_eq_false (hi.ne_nil S.nil)]; exact h) u' v' hu hv s Q E S
theorem CO.cellntNil {a : Addr} {fs} (hi : InstL g n a CONS fs) (h : Φ (.bool true) g n) : CO c m g n .IsNot (.ref a) (.ref NIL) Φ Ψ := fun u' v' hu hv s Q E S =>
  CO.isnt (n := n) (InstL.nt hi) S.nil.nt.th (by rw [decide_eq_false (hi.ne_nil S.nil)]; exact h) u' v' hu hv s Q E S
theorem CO.nilNil (h : Φ (.bool true) g n) : CO c m g n .Is (.ref NIL) (.ref NIL) Φ Ψ := fun u' v' hu hv s Q E S =>
  CO.is (n := n) S.nil.nt S.nil.nt.th (by simpa using h) u' v' hu hv s Q E S
theorem CO.nilntNil (h : Φ (.bool false) g n) : CO c m g n .IsNot (.ref NIL) (.ref NIL) Φ Ψ := fun u' v' hu hv s Q E S =>
  CO.isnt (n := n) S.nil.nt S.nil.nt.th (by simpa using h) u' v' hu hv s Q E S
theorem CA.nilCons' (h : Φ (.bool false) g n) : CA c m g n (.builtin "isinstance") [.ref NIL, .ref CONS] Φ Ψ := fun vs' hv s Q E S => CA.nilCons S.nil h vs' hv s Q E S
abbrev FT (w : World) (h₀ : Heap) (f : Value) (args : List Value) (g : View) (k : Nat) (P : Value → View → Prop) : Prop := FN w h₀ f args g [] k (fun v g' n' => n' = [] ∧ P v g') (fun _ _ => False)
abbrev FR (w : World) (h₀ : Heap) (f : Value) (args : List Value) (g : View) (k : Nat) : Prop := FN w h₀ f args g [] k (fun _ _ _ => False) (fun _ n' => n' = [])
theorem CA.ft {f : Value} {vs : List Value} {k : Nat} {P : Value → View → Prop} (F : FT c.w c.h₀ f vs g k P) (hk : k ≤ c.k) (h : ∀ v g', Le g g' → P v g' → Φ v g' n) : CA c m g n f vs Φ Ψ :=
  CA.fn F hk (fun v g' n' le _ z => by obtain ⟨rfl, z⟩ := z; exact h v g' le z) (fun _ _ _ z => z.elim)
theorem CA.fte {f : Value} {vs : List Value} {k : Nat} {v : Value} (F : FT c.w c.h₀ f vs g k (fun u _ => u = v)) (hk : k ≤ c.k) (h : ∀ g', Le g g' → Φ v g' n) : CA c m g n f vs Φ Ψ := CA.ft F hk fun _ g' le e => e ▸ h g' le
theorem CA.fr {f : Value} {vs : List Value} {k : Nat} (F : FR c.w c.h₀ f vs g k) (hk : k ≤ c.k) (h : ∀ g', Le g g' → Ψ g' n) : CA c m g n f vs Φ Ψ :=
  CA.fn F hk (fun v g' n' le _ z => z.elim) (fun g' n' le z => z ▸ h g' le)
theorem SX.mono {st : List Stmt} {F' : FPost} (h : SX c m g n st F Ψ) (k : ∀ f m' g' n', Le g g' → F f m' g' n' → F' f m' g' n') : SX c m g n st F' Ψ := fun s Q E S hQ hE =>
  h s Q E S (fun f f' m' g' n' h' tk z hf le S' => hQ f f' m' g' n' h' tk (k f m' g' n' le z) hf le S') hE
def Jn (J : Loc → View → Led → Prop) (F : FPost) : FPost := fun f m g n => match f with | .next => J m g n | f => F f m g n
theorem Jn.next {J : Loc → View → Led → Prop} (h : J m g n) : Jn J F .next m g n := h
theorem Jn.ret {J : Loc → View → Led → Prop} {v : Value} (h : F (.ret v) m g n) : Jn J F (.ret v) m g n := h
theorem Jn.brk {J : Loc → View → Led → Prop} (h : F .brk m g n) : Jn J F .brk m g n := h
theorem Jn.cont {J : Loc → View → Led → Prop} (h : F .cont m g n) : Jn J F .cont m g n := h
theorem SX.ifJ {t : Expr} {b o : List Stmt} {pos : Pos} {rest : List Stmt} (J : Loc → View → Led → Prop)
    (h : TX c m g n t (kIf2 c m b (Jn J F) o (Jn J F) Ψ) Ψ) (k : ∀ m1 g1 n1, Le g g1 → J m1 g1 n1 → SX c m1 g1 n1 rest F Ψ) : SX c m g n (.If t b o pos :: rest) F Ψ := by
  refine SX.ife (DO.mono h (fun z g1 n1 le hz => ?_) fun _ _ z => z)
  have go : ∀ {st}, SX c m g1 n1 st (Jn J F) Ψ → SX c m g1 n1 st (Thn c rest F Ψ) Ψ := fun hs => hs.mono fun f m' g' n' le' hf => by
    cases f with
    | next => exact k m' g' n' (le.trans le') hf
    | cont => exact hf
    | brk => exact hf
    | ret v => exact hf
  exact ⟨fun e => go (hz.1 e), fun e => go (hz.2 e)⟩
theorem orNT {A B : Prop} (h : A) : (((!true) = false) → A) ∧ (((!true) = true) → B) := ⟨fun _ => h, fun h => (nomatch h)⟩
theorem orNF {A B : Prop} (h : B) : (((!false) = false) → A) ∧ (((!false) = true) → B) := ⟨fun h => (nomatch h), fun _ => h⟩
theorem CO.refNone {a : Addr} (h : Φ (.bool false) g n) : CO c m g n .Is (.ref a) .none Φ Ψ := CO.isNone h
theorem CO.refntNone {a : Addr} (h : Φ (.bool true) g n) : CO c m g n .IsNot (.ref a) .none Φ Ψ := CO.isntNone h
theorem CO.noneNone (h : Φ (.bool true) g n) : CO c m g n .Is .none .none Φ Ψ := CO.isNone h
theorem CO.nonentNone (h : Φ (.bool false) g n) : CO c m g n .IsNot .none .none Φ Ψ := CO.isntNone h
theorem FN.done {w : World} {h₀ : Heap} {f : Value} {args : List Value} {k : Nat} {Φ' : Post} {Ψ' : XPost} (F : FN w h₀ f args g n k Φ Ψ) (hΦ : ∀ v g' n', Le g g' → Φ v g' n' → Φ' v g' []) (hΨ : ∀ g' n', Le g g' → Ψ g' n' → Ψ' g' []) : FN w h₀ f args g n k Φ' Ψ' := by
  intro A outer s R vs G hb hh hA hr hs hf hd hv hQ hE
  have en : ∀ {g' n' h'}, Ends outer g n s.heap g' n' h' → Ends outer g n s.heap g' [] h' := fun e => ⟨e.le, ⟨e.sits.vw, fun p hp => (nomatch hp), fun a ha => (nomatch ha), .nil⟩, e.keep, e.new, fun a ha => (nomatch ha)⟩
  refine F A outer s R vs G hb hh hA hr hs hf hd hv (fun v v' g' n' h' tk z hv' e => hQ v v' g' [] h' tk (hΦ v g' n' e.le z) hv' (en e)) fun x g' n' h' tk z e X => hE x g' [] h' tk (hΨ g' n' e.le z) (en e) ?_
  exact X.mv fun a h1 h2 _ => ⟨h2, fun q => (nomatch q), h1⟩
theorem FT.of {w : World} {h₀ : Heap} {f : Value} {args : List Value} {k : Nat} {P : Value → View → Prop} (F : FN w h₀ f args g [] k (fun v g' _ => P v g') (fun _ _ => False)) : FT w h₀ f args g k P := F.done (fun v g' n' _ z => ⟨rfl, z⟩) fun _ _ _ z => z
theorem FR.of {w : World} {h₀ : Heap} {f : Value} {args : List Value} {k : Nat} (F : FN w h₀ f args g [] k (fun _ _ _ => False) (fun _ _ => True)) : FR w h₀ f args g k := F.done (fun v g' n' _ z => z) fun _ _ _ _ => rfl
theorem sideM {v : Value} {l : Addr} {us : List Value} {K : Addr → Prop} (h : v = .ref l) (x : LAt g n l us) (k : K l) : ∃ l us, v = .ref l ∧ LAt g n l us ∧ K l := ⟨l, us, h, x, k⟩
theorem sideF {v : Value} {a : Addr} {K : Addr → Prop} (h : v = .ref a) (x : FV g a) (k : K a) : ∃ a, v = .ref a ∧ FV g a ∧ K a := ⟨a, h, x, k⟩
theorem Cel.leR {g g' : View} {a x y} (k : Le g g') (h : Cel g a x y) : Cel g' a x y := h.le k
theorem Ring.leR {g g' : View} {P T a q} (k : Le g g') (h : Ring g P T a q) : Ring g' P T a q := h.le k
theorem Tup.leR {g g' : View} {a us} (k : Le g g') (h : Tup g a us) : Tup g' a us := h.le k
theorem Lst.leR {g g' : View} {a us} (k : Le g g') (h : Lst g a us) : Lst g' a us := h.le k
theorem FV.leR {g g' : View} {a} (k : Le g g') (h : FV g a) : FV g' a := h.le k
end Mine

local macro_rules | `(tactic| walk_at "M.ring") => `(tactic| first | assumption | exact Mine.Ring.leR (by assumption) (by walk_at "M.ring"))
local macro_rules | `(tactic| walk_at "M.cel") => `(tactic| first | assumption | exact Mine.Ring.cel (by walk_at "M.ring") _ | exact Mine.Cel.leR (by assumption) (by walk_at "M.cel"))
local macro_rules | `(tactic| walk_at "M.tup") => `(tactic| first | assumption | exact Mine.Tup.leR (by assumption) (by walk_at "M.tup"))
local macro_rules | `(tactic| walk_at "M.lst") => `(tactic| first | assumption | exact Mine.Lst.leR (by assumption) (by walk_at "M.lst"))
local macro_rules | `(tactic| walk_at "M.fv") => `(tactic| first | assumption | exact Mine.FV.leR (by assumption) (by walk_at "M.fv"))
local macro_rules | `(tactic| walk_at "M.lat") => `(tactic| first | exact .inl (by walk_at "M.lst") | exact .inr (by walk_at "M.mem"))
local macro_rules | `(tactic| walk_at "M.inst") => `(tactic| first | assumption | exact Mine.Cel.inst (by walk_at "M.cel"))
local macro_rules | `(tactic| walk_at "M.nt") => `(tactic| first | assumption | exact Mine.Cel.nt (by walk_at "M.cel") | exact Mine.Lst.nt (by walk_at "M.lst"))
local macro_rules | `(tactic| walk_at "M.co") => `(tactic| first
  | ((with_reducible refine (?_ : Mine.CO _ _ _ _ CmpOp.Is (Value.ref Mine.NIL) (Value.ref Mine.NIL) _ _)); refine Mine.CO.nilNil ?_)
  | ((with_reducible refine (?_ : Mine.CO _ _ _ _ CmpOp.IsNot (Value.ref Mine.NIL) (Value.ref Mine.NIL) _ _)); refine Mine.CO.nilntNil ?_)
  | ((with_reducible refine (?_ : Mine.CO _ _ _ _ CmpOp.Is (Value.ref _) (Value.ref Mine.NIL) _ _)); refine Mine.CO.cellNil (by walk_at "M.inst") ?_)
  | ((with_reducible refine (?_ : Mine.CO _ _ _ _ CmpOp.IsNot (Value.ref _) (Value.ref Mine.NIL) _ _)); refine Mine.CO.cellntNil (by walk_at "M.inst") ?_))
local macro_rules | `(tactic| walk_at "M.isi2") => `(tactic| with_reducible refine Mine.CA.nilCons' ?_)
local macro_rules | `(tactic| walk_at "M.sb") => `(tactic| first
  | ((with_reducible refine (?_ : Mine.SB _ _ _ _ _ _ (Value.ref _) (Value.int _ _) _ _)); first
    | refine Mine.SB.lst (by walk_at "M.lat") (by decide) (by decide) rfl ?_
    | refine Mine.SB.lstN (by walk_at "M.lat") (by decide) (by simp) (by decide) rfl ?_
    | refine Mine.SB.tup (by walk_at "M.tup") (by decide) (by decide) rfl rfl ?_))
local macro_rules | `(tactic| walk_at "M.e2") => `(tactic| first
  | ((with_reducible refine (?_ : Mine.EX _ _ _ _ (Expr.Subscript _ _ _) _ _)); refine Mine.EX.subs ?_))
local macro_rules | `(tactic| walk_at "M.s") => `(tactic| first
  | ((with_reducible refine (?_ : Mine.SB _ _ _ _ _ _ _ _ _ _)); walk_at "M.sb"))
local macro_rules | `(tactic| walk_at "M.def") => `(tactic| (walk_at "M.ent"; intro c hw hh hsc hk hn0 hcomp hcl hcd hnm G hb; subst hw hh; dsimp only [List.zip, List.zipWith, List.map, List.append, HAppend.hAppend, Append.append]))
local macro_rules | `(tactic| walk_at "M.co") => `(tactic| first
  | with_reducible (first
    | refine Mine.CO.refNone ?_
    | refine Mine.CO.refntNone ?_
    | refine Mine.CO.noneNone ?_
    | refine Mine.CO.nonentNone ?_))
local macro_rules | `(tactic| walk_at "M.f") => `(tactic| first
  | with_reducible (first
    | refine Mine.Jn.next ?_
    | refine Mine.Jn.ret ?_
    | refine Mine.Jn.brk ?_
    | refine Mine.Jn.cont ?_))
local macro_rules | `(tactic| walk_at "M.goi") => `(tactic| repeat ((fail_if_success (with_reducible show Mine.SX _ _ _ _ (Stmt.If _ _ _ _ :: _) _ _)); walk_at "M.s"))
local macro_rules | `(tactic| walk_at "M.m") => `(tactic| first
  | with_reducible (first
    | refine Mine.orNT ?_
    | refine Mine.orNF ?_))
local macro_rules | `(tactic| walk_at "M.swap") => `(tactic| first | exact Mine.Swap.head | exact Mine.Swap.tail (by walk_at "M.swap"))
local macro_rules | `(tactic| walk_at "M.len") => `(tactic| first | omega | (simp only [List.length_append, List.length_cons, List.length_nil, List.length_map, List.length_range]; omega))
local macro_rules | `(tactic| walk_at "M.ca") => `(tactic| first
  | ((with_reducible refine (?_ : Mine.CA _ _ _ _ (Value.builtin "len") [Value.ref _] _ _)); refine Mine.CA.len (by walk_at "M.lat") (by walk_at "M.len") ?_)
  | ((with_reducible refine (?_ : Mine.CA _ _ _ _ (Value.builtin "list.append") [Value.ref _, _] _ _)); refine Mine.CA.append (by walk_at "M.swap") (by walk_at "M.len") ?_))
local macro_rules | `(tactic| walk_at "M.e2") => `(tactic| first
  | ((with_reducible refine (?_ : Mine.EX _ _ _ _ (Expr.Call (Expr.Attribute _ "append" _) (_ :: _) [] _) _ _)); refine Mine.EX.meth PySem.F.slot_list_append PySem.F.type_list_append ?_))
local macro_rules | `(tactic| walk_at "M.m") => `(tactic| first
  | ((with_reducible refine (?_ : (Exists fun l => Exists fun us => _ = Value.ref l ∧ Mine.LAt _ _ l us ∧ _))); refine Mine.sideM rfl (by walk_at "M.lat") ?_)
  | ((with_reducible refine (?_ : (Exists fun a => _ = Value.ref a ∧ Mine.FV _ a ∧ _))); refine Mine.sideF rfl (by walk_at "M.fv") ?_))
local macro_rules | `(tactic| walk_at "M.s") => `(tactic| first
  | ((with_reducible refine (?_ : Mine.BO _ _ _ _ Operator.Mod _ _ _ _)); refine Mine.BO.mod (by first | decide | omega) ?_))

namespace Mine
variable {c : Cx} {m : Loc} {g : View} {n : Led} {Φ : Post} {Ψ : XPost} {F : FPost}
theorem kitI1 (w : World) : kitOne (KK w) (.type "int") (.type "int") = some true := by kernel_rfl
theorem kitI2 (w : World) : kitOne (KK w) (.type "int") (.type "bool") = some false := by kernel_rfl
theorem kitI3 (w : World) : kitOne (KK w) (.type "int") (.ref 104) = some false := by kernel_rfl
theorem kitI4 (w : World) : kitOne (KK w) (.type "int") (.ref 125) = some false := by kernel_rfl
theorem kitI5 (w : World) : kitOne (KK w) (.type "int") (.ref 146) = some false := by kernel_rfl
theorem kitI6 (w : World) : kitOne (KK w) (.type "int") (.ref 181) = some false := by kernel_rfl
theorem kitC1 (w : World) : kitOne (KK w) (.ref CONS) (.type "int") = some false := by kernel_rfl
theorem kitC3 (w : World) : kitOne (KK w) (.ref CONS) (.ref 104) = some false := by kernel_rfl
theorem kitC4 (w : World) : kitOne (KK w) (.ref CONS) (.ref 125) = some false := by kernel_rfl
theorem kitC7 (w : World) : kitAny (KK w) (.ref CONS) [.ref 125, .ref 104] = some false := by kernel_rfl
end Mine
local macro_rules | `(tactic| walk_at "M.kit") => `(tactic| first | exact Mine.kitI1 _ | exact Mine.kitI2 _ | exact Mine.kitC1 _ | exact Mine.kitC3 _ | exact Mine.kitC4 _ | exact Mine.kitI3 _ | exact Mine.kitI4 _ | exact Mine.kitI5 _ | exact Mine.kitI6 _)
local macro_rules | `(tactic| walk_at "M.isi2") => `(tactic| first
  | ((with_reducible refine (?_ : Mine.CA _ _ _ _ _ [Value.int _ _, Value.type _] _ _)); refine' Mine.CA.isi_int ?e Mine.is_eq_type ?_; (case e => walk_at "M.kit"))
  | ((with_reducible refine (?_ : Mine.CA _ _ _ _ _ [Value.int _ _, Value.ref _] _ _)); refine' Mine.CA.isi_int ?e Mine.is_eq_ref ?_; (case e => walk_at "M.kit"))
  | ((with_reducible refine (?_ : Mine.CA _ _ _ _ _ [Value.ref _, Value.type _] _ _)); refine' Mine.CA.isi_inst ?i (Mine.isiOK_cons _) ?e Mine.is_eq_type ?_; (case i => exact Mine.Cel.inst (n := []) (by walk_at "M.cel")); (case e => walk_at "M.kit"))
  | ((with_reducible refine (?_ : Mine.CA _ _ _ _ _ [Value.ref _, Value.ref 104] _ _)); refine' Mine.CA.isi_inst ?i (Mine.isiOK_cons _) ?e Mine.is_eq_ref ?_; (case i => exact Mine.Cel.inst (n := []) (by walk_at "M.cel")); (case e => walk_at "M.kit"))
  | ((with_reducible refine (?_ : Mine.CA _ _ _ _ _ [Value.ref _, Value.ref 125] _ _)); refine' Mine.CA.isi_inst ?i (Mine.isiOK_cons _) ?e Mine.is_eq_ref ?_; (case i => exact Mine.Cel.inst (n := []) (by walk_at "M.cel")); (case e => walk_at "M.kit"))
  | with_reducible refine Mine.CA.nilCons' ?_)
namespace Mine
variable {c : Cx} {m : Loc} {g : View} {n : Led} {Φ : Post} {Ψ : XPost} {F : FPost}
theorem is_list_fn {w : World} {h₀ : Heap} {a : Addr} {x y : Value} (hx : Cel g a x y) : FT w h₀ (.ref 221) [.ref a] g 1 (fun v _ => v = .bool true) := by
  refine' FN.of (ps := ["datum"]) (rest := []) (ds := []) ?ho ?hcd ?hb ?hl ?hn ?hnd ?hc ?hco ?hg ?hk ?h
  walk_at "M.def"
  walk_at "M.go"
  exact ⟨rfl, rfl⟩
theorem need_list_fn {w : World} {h₀ : Heap} {a : Addr} {x y : Value} (hx : Cel g a x y) : FT w h₀ (.ref 235) [.ref a] g 2 (fun v _ => v = .ref a) := by
  refine' FN.of (ps := ["value"]) (rest := []) (ds := []) ?ho ?hcd ?hb ?hl ?hn ?hnd ?hc ?hco ?hg ?hk ?h
  walk_at "M.def"
  walk_at "M.go"
  refine CA.fte (is_list_fn (by walk_at "M.cel")) (by walk_at "M.om") fun g' le => ?_
  walk_at "M.go"
  exact ⟨rfl, rfl⟩
theorem is_whole_i {w : World} {h₀ : Heap} {i : Int} {t : Tok} : FT w h₀ (.ref 214) [.int i t] g 1 (fun v _ => v = .bool true) := by
  refine' FN.of (ps := ["datum"]) (rest := []) (ds := []) ?ho ?hcd ?hb ?hl ?hn ?hnd ?hc ?hco ?hg ?hk ?h
  walk_at "M.def"
  walk_at "M.go"
  exact ⟨rfl, rfl⟩
theorem is_whole_c {w : World} {h₀ : Heap} {a : Addr} {x y : Value} (hx : Cel g a x y) : FT w h₀ (.ref 214) [.ref a] g 1 (fun v _ => v = .bool false) := by
  refine' FN.of (ps := ["datum"]) (rest := []) (ds := []) ?ho ?hcd ?hb ?hl ?hn ?hnd ?hc ?hco ?hg ?hk ?h
  walk_at "M.def"
  walk_at "M.go"
  exact ⟨rfl, rfl⟩
end Mine
local macro_rules | `(tactic| walk_at "M.ca") => `(tactic| first
  | ((with_reducible refine (?_ : Mine.CA _ _ _ _ (Value.ref 221) _ _ _)); refine Mine.CA.fte (Mine.is_list_fn (by walk_at "M.cel")) (by walk_at "M.om") ?_; intro _ _)
  | ((with_reducible refine (?_ : Mine.CA _ _ _ _ (Value.ref 235) _ _ _)); refine Mine.CA.fte (Mine.need_list_fn (by walk_at "M.cel")) (by walk_at "M.om") ?_; intro _ _)
  | ((with_reducible refine (?_ : Mine.CA _ _ _ _ (Value.ref 214) [Value.int _ _] _ _)); refine Mine.CA.fte Mine.is_whole_i (by walk_at "M.om") ?_; intro _ _)
  | ((with_reducible refine (?_ : Mine.CA _ _ _ _ (Value.ref 214) [Value.ref _] _ _)); refine Mine.CA.fte (Mine.is_whole_c (by walk_at "M.cel")) (by walk_at "M.om") ?_; intro _ _))
namespace Mine
variable {c : Cx} {m : Loc} {g : View} {n : Led} {Φ : Post} {Ψ : XPost} {F : FPost}
theorem need_whole_i {w : World} {h₀ : Heap} {i : Int} {t : Tok} : FT w h₀ (.ref 242) [.int i t] g 2 (fun v _ => v = .int i t) := by
  refine' FN.of (ps := ["value"]) (rest := []) (ds := []) ?ho ?hcd ?hb ?hl ?hn ?hnd ?hc ?hco ?hg ?hk ?h
  walk_at "M.def"
  walk_at "M.go"
  exact ⟨rfl, rfl⟩
theorem eq_ii {w : World} {h₀ : Heap} {i j : Int} {t u : Tok} : FT w h₀ (.ref 284) [.int i t, .int j u] g 2 (fun v _ => v = .bool (i == j)) := by
  refine' FN.of (ps := ["one", "other"]) (rest := []) (ds := []) ?ho ?hcd ?hb ?hl ?hn ?hnd ?hc ?hco ?hg ?hk ?h
  walk_at "M.def"
  walk_at "M.go"
  exact ⟨rfl, rfl⟩
theorem eq_ic {w : World} {h₀ : Heap} {i : Int} {t : Tok} {a : Addr} {x y : Value} (hx : Cel g a x y) : FT w h₀ (.ref 284) [.int i t, .ref a] g 2 (fun v _ => v = .bool false) := by
  refine' FN.of (ps := ["one", "other"]) (rest := []) (ds := []) ?ho ?hcd ?hb ?hl ?hn ?hnd ?hc ?hco ?hg ?hk ?h
  walk_at "M.def"
  walk_at "M.go"
  exact ⟨rfl, rfl⟩
theorem cdr_of_fn {w : World} {h₀ : Heap} {a : Addr} {x y : Value} (hx : Cel g a x y) : FT w h₀ (.ref 270) [.ref a] g 3 (fun v _ => v = y) := by
  refine' FN.of (ps := ["value"]) (rest := []) (ds := []) ?ho ?hcd ?hb ?hl ?hn ?hnd ?hc ?hco ?hg ?hk ?h
  walk_at "M.def"
  walk_at "M.go"
  exact ⟨rfl, rfl⟩
theorem car_of_fn {w : World} {h₀ : Heap} {a : Addr} {x y : Value} (hx : Cel g a x y) : FT w h₀ (.ref 263) [.ref a] g 3 (fun v _ => v = x) := by
  refine' FN.of (ps := ["value"]) (rest := []) (ds := []) ?ho ?hcd ?hb ?hl ?hn ?hnd ?hc ?hco ?hg ?hk ?h
  walk_at "M.def"
  walk_at "M.go"
  exact ⟨rfl, rfl⟩
end Mine
local macro_rules | `(tactic| walk_at "M.ca") => `(tactic| first
  | ((with_reducible refine (?_ : Mine.CA _ _ _ _ (Value.ref 242) _ _ _)); refine Mine.CA.fte Mine.need_whole_i (by walk_at "M.om") ?_; intro _ _)
  | ((with_reducible refine (?_ : Mine.CA _ _ _ _ (Value.ref 284) [Value.int _ _, Value.int _ _] _ _)); refine Mine.CA.fte Mine.eq_ii (by walk_at "M.om") ?_; intro _ _)
  | ((with_reducible refine (?_ : Mine.CA _ _ _ _ (Value.ref 284) [Value.int _ _, Value.ref _] _ _)); refine Mine.CA.fte (Mine.eq_ic (by walk_at "M.cel")) (by walk_at "M.om") ?_; intro _ _)
  | ((with_reducible refine (?_ : Mine.CA _ _ _ _ (Value.ref 270) _ _ _)); refine Mine.CA.fte (Mine.cdr_of_fn (by walk_at "M.cel")) (by walk_at "M.om") ?_; intro _ _)
  | ((with_reducible refine (?_ : Mine.CA _ _ _ _ (Value.ref 263) _ _ _)); refine Mine.CA.fte (Mine.car_of_fn (by walk_at "M.cel")) (by walk_at "M.om") ?_; intro _ _))

namespace Mine
variable {c : Cx} {m : Loc} {g : View} {n : Led} {Φ : Post} {Ψ : XPost} {F : FPost}
def spotN (a q k : Nat) : Nat := if k ≤ a then k else a + (k - a) % q
theorem spot_P {P : Nat → Addr} {a q k : Nat} (hq : 0 < q) (per : ∀ i j, P i = P j ↔ (i = j ∨ (a ≤ i ∧ a ≤ j ∧ i % q = j % q))) : P (spotN a q k) = P k := by
  unfold spotN
  split
  · rfl
  · rename_i h
    refine (per _ _).mpr (.inr ⟨by walk_at "M.om", by walk_at "M.om", ?_⟩)
    have : k = a + (k - a) := by omega
    conv => rhs; rw [this]
    rw [Nat.add_mod, Nat.mod_mod, ← Nat.add_mod]
theorem rest_at_fn {w : World} {h₀ : Heap} {P : Nat → Addr} {T : Nat → Value} {a q k : Nat} {t : Tok} (hR : Ring g P T a q) :
    FT w h₀ (.ref 371) [.int k t, .ref (P 0)] g 4 (fun v _ => v = .ref (P k)) := by
  refine' FN.of (ps := ["many", "value"]) (rest := ["ring", "left", "here"]) (ds := []) ?ho ?hcd ?hb ?hl ?hn ?hnd ?hc ?hco ?hg ?hk ?h
  walk_at "M.def"
  walk_at "M.go"
  refine CA.ft (ring_of_fn hR) (by walk_at "M.om") fun v g1 le1 hv => ?_
  obtain ⟨tp, rfl, hT⟩ := hv
  have hq := hR.m0
  have hR1 := hR.le le1
  walk_at "M.goi"
  refine SX.ifJ (fun m1 g1 n1 => n1 = [] ∧ ∃ u, m1 = [(("many" : Str), some (.int (k : Int) t)), (("value" : Str), some (.ref (P 0))), (("ring" : Str), some (.ref tp)), (("left" : Str), some (.int (spotN a q k : Int) u)), (("here" : Str), none)]) ?_ ?_
  · walk_at "M.go"
    refine ⟨fun hz => ?_, fun hz => ?_⟩
    · have hz : (a : Int) < k := of_decide_eq_true hz
      walk_at "M.go"
      refine ⟨rfl, 0, ?_⟩
      have e : (a : Int) + ((k : Int) - a).fmod q = (spotN a q k : Nat) := by
        unfold spotN
        rw [if_neg (by walk_at "M.om"), Int.fmod_eq_emod_of_nonneg _ (by walk_at "M.om"), show (k : Int) - a = ((k - a : Nat) : Int) from by omega]
        push_cast
        rfl
      rw [e]
    · have hz : ¬ (a : Int) < k := of_decide_eq_false hz
      walk_at "M.go"
      exact ⟨rfl, t, by unfold spotN; rw [if_pos (by walk_at "M.om")]⟩
  · rintro m1 g2 n1 le2 ⟨rfl, u, rfl⟩
    have hR2 := hR1.le le2
    clear hR1
    walk_at "M.go"
    refine SX.while (fun k1 m1 g1 n1 => ∃ i u, i + k1 = spotN a q k ∧ n1 = [] ∧ m1 = [(("many" : Str), some (.int (k : Int) t)), (("value" : Str), some (.ref (P 0))), (("ring" : Str), some (.ref tp)), (("left" : Str), some (.int (k1 : Int) u)), (("here" : Str), some (.ref (P i)))]) (spotN a q k) ⟨0, _, by walk_at "M.om", rfl, rfl⟩ ?_
    rintro k1 m1 g3 n1 le3 ⟨i, u, hi, rfl, rfl⟩
    have hR3 := hR2.le le3
    clear hR2
    walk_at "M.go"
    refine ⟨fun hz => ?_, fun hz => ?_⟩
    · have hz : (0 : Int) < k1 := of_decide_eq_true hz
      walk_at "M.go"
      exact ⟨k1 - 1, by walk_at "M.om", i + 1, 0, by walk_at "M.om", rfl, by rw [show ((k1 - 1 : Nat) : Int) = (k1 : Int) - 1 from by omega]⟩
    · have hz : ¬ (0 : Int) < k1 := of_decide_eq_false hz
      walk_at "M.go"
      obtain rfl : i = spotN a q k := by omega
      exact ⟨rfl, congrArg Value.ref (spot_P hq hR3.per)⟩
theorem spot_T {g : View} {P : Nat → Addr} {T : Nat → Value} {a q k : Nat} (hR : Ring g P T a q) : P (spotN a q k) = P k := spot_P hR.m0 hR.per
end Mine
local macro_rules | `(tactic| walk_at "M.ca") => `(tactic| first
  | ((with_reducible refine (?_ : Mine.CA _ _ _ _ (Value.ref 371) _ _ _)); refine Mine.CA.fte (Mine.rest_at_fn (by walk_at "M.ring")) (by walk_at "M.om") ?_; intro _ _))
namespace Mine
variable {c : Cx} {m : Loc} {g : View} {n : Led} {Φ : Post} {Ψ : XPost} {F : FPost}
theorem nthcdr_fn {w : World} {h₀ : Heap} {P : Nat → Addr} {T : Nat → Value} {a q k : Nat} {t : Tok} {l : Addr} {x : Value} (hR : Ring g P T a q) (hL : Lst g l [.int k t, .ref (P 0)]) :
    FT w h₀ (.ref 378) [x, .ref l] g 5 (fun v _ => v = .ref (P k)) := by
  refine' FN.of (ps := ["world", "args"]) (rest := []) (ds := []) ?ho ?hcd ?hb ?hl ?hn ?hnd ?hc ?hco ?hg ?hk ?h
  walk_at "M.def"
  walk_at "M.go"
  exact ⟨rfl, rfl⟩
theorem nth_fn {w : World} {h₀ : Heap} {P : Nat → Addr} {T : Nat → Value} {a q k : Nat} {t : Tok} {l : Addr} {x : Value} (hR : Ring g P T a q) (hL : Lst g l [.int k t, .ref (P 0)]) :
    FT w h₀ (.ref 385) [x, .ref l] g 5 (fun v _ => v = T k) := by
  refine' FN.of (ps := ["world", "args"]) (rest := []) (ds := []) ?ho ?hcd ?hb ?hl ?hn ?hnd ?hc ?hco ?hg ?hk ?h
  walk_at "M.def"
  walk_at "M.go"
  exact ⟨rfl, rfl⟩
theorem is_array_c {w : World} {h₀ : Heap} {a : Addr} {x y : Value} (hx : Cel g a x y) : FT w h₀ (.ref 535) [.ref a] g 1 (fun v _ => v = .bool false) := by
  refine' FN.of (ps := ["value"]) (rest := []) (ds := []) ?ho ?hcd ?hb ?hl ?hn ?hnd ?hc ?hco ?hg ?hk ?h
  walk_at "M.def"
  walk_at "M.go"
  intro t g1 le1 ht
  walk_at "M.go"
  refine CA.isT_inst (n := []) (Cel.inst (n := []) (by walk_at "M.cel")) ht (plain_ref (plain_ref plain_nil)) (isiOK_cons _) (kitC7 _) ?_
  walk_at "M.go"
  exact ⟨rfl, rfl⟩
end Mine
local macro_rules | `(tactic| walk_at "M.ca") => `(tactic| first
  | ((with_reducible refine (?_ : Mine.CA _ _ _ _ (Value.ref 535) _ _ _)); refine Mine.CA.fte (Mine.is_array_c (by walk_at "M.cel")) (by walk_at "M.om") ?_; intro _ _))
namespace Mine
variable {c : Cx} {m : Loc} {g : View} {n : Led} {Φ : Post} {Ψ : XPost} {F : FPost}
theorem elt_fn {w : World} {h₀ : Heap} {P : Nat → Addr} {T : Nat → Value} {a q k : Nat} {t : Tok} {l : Addr} {x : Value} (hR : Ring g P T a q) (hL : Lst g l [.ref (P 0), .int k t]) :
    FT w h₀ (.ref 575) [x, .ref l] g 5 (fun v _ => v = T k) := by
  refine' FN.of (ps := ["world", "args"]) (rest := ["rest"]) (ds := []) ?ho ?hcd ?hb ?hl ?hn ?hnd ?hc ?hco ?hg ?hk ?h
  walk_at "M.def"
  walk_at "M.go"
  refine ⟨fun hz => ?_, fun hz => ?_⟩
  · walk_at "M.go"
    exact ⟨rfl, rfl⟩
  · have hz : (k : Int) < 0 := of_decide_eq_true hz
    omega
end Mine

namespace Mine
variable {c : Cx} {m : Loc} {g : View} {n : Led} {Φ : Post} {Ψ : XPost} {F : FPost}
theorem modc {j i k q : Nat} (h : (j + i) % q = (j + k) % q) : i % q = k % q := by
  have h1 : ((j : Int) + i) % q = ((j : Int) + k) % q := by rw [← Int.natCast_add, ← Int.natCast_add, ← Int.natCast_emod, ← Int.natCast_emod, h]
  have h2 := Int.emod_eq_emod_iff_emod_sub_eq_zero.mp h1
  rw [show (j : Int) + i - (j + k) = i - k from by omega] at h2
  have h3 := Int.emod_eq_emod_iff_emod_sub_eq_zero.mpr h2
  exact_mod_cast h3
theorem Ring.shift {g : View} {P : Nat → Addr} {T : Nat → Value} {a q : Nat} (h : Ring g P T a q) (j : Nat) : Ring g (fun i => P (j + i)) (fun i => T (j + i)) (a - j) q := by
  refine ⟨fun i => h.cel (j + i), h.m0, fun i k => ?_, Nat.le_trans (Nat.mul_le_mul_left _ (by walk_at "M.om")) h.big⟩
  rw [h.per]
  constructor
  · rintro (e | ⟨h1, h2, h3⟩)
    · exact .inl (by walk_at "M.om")
    · exact .inr ⟨by walk_at "M.om", by walk_at "M.om", modc h3⟩
  · rintro (e | ⟨h1, h2, h3⟩)
    · exact .inl (by walk_at "M.om")
    · exact .inr ⟨by walk_at "M.om", by walk_at "M.om", by rw [Nat.add_mod, h3, ← Nat.add_mod]⟩
def Met (a q s : Nat) : Prop := a + q ≤ s ∧ s ≤ 2 * (a + q)
theorem met_of {P : Nat → Addr} {a q k : Nat} (hq : 0 < q) (per : ∀ i j, P i = P j ↔ (i = j ∨ (a ≤ i ∧ a ≤ j ∧ i % q = j % q))) (h0 : 0 < k) (h : P k = P (2 * k)) (hmin : ∀ j, 0 < j → j < k → P j ≠ P (2 * j)) : Met a q (2 * k) := by
  obtain ⟨h1, h2⟩ := (meet h0 hq per).mp h
  have hk : q ≤ k := Nat.le_of_dvd h0 (Nat.dvd_of_mod_eq_zero h2)
  refine ⟨by walk_at "M.om", ?_⟩
  refine Nat.mul_le_mul_left 2 (Nat.le_of_not_lt fun hlt => ?_)
  refine hmin (k - q) (by walk_at "M.om") (by walk_at "M.om") ((meet (by walk_at "M.om") hq per).mpr ⟨by walk_at "M.om", ?_⟩)
  rw [← Nat.mod_eq_sub_mod hk]; exact h2
theorem split_ring_fn {w : World} {h₀ : Heap} {P : Nat → Addr} {T : Nat → Value} {a q : Nat} (hR : Ring g P T a q) :
    FN w h₀ (.ref 200) [.ref (P 0)] g [] 1 (fun v g' n' => ∃ t l us, n' = [(l, LstO us)] ∧ v = .ref t ∧ Tup g' t [.ref l, .none] ∧ Met a q us.length) (fun _ _ => False) := by
  refine' FN.of (ps := ["datum"]) (rest := ["things", "at", "slow"]) (ds := []) ?ho ?hcd ?hb ?hl ?hn ?hnd ?hc ?hco ?hg ?hk ?h
  walk_at "M.def"
  walk_at "M.go"
  refine EX.lst ?_
  walk_at "M.go"
  intro l hl
  walk_at "M.go"
  have hq := hR.m0
  have hper := hR.per
  refine SX.while (fun k m1 g1 n1 => ∃ s us, s + k = 2 * (q * (a + 1)) ∧ 0 < k ∧ us.length = s ∧ n1 = [(l, LstO us)] ∧ (∀ j, 0 < j → 2 * j ≤ s → P j ≠ P (2 * j)) ∧ m1 = [(("datum" : Str), some (Value.ref (P 0))), (("things" : Str), some (Value.ref l)), (("at" : Str), some (Value.ref (P s))), (("slow" : Str), some (Value.ref (P (s / 2))))]) (2 * (q * (a + 1)))
    ⟨0, [], Nat.zero_add _, Nat.mul_pos (by decide) (Nat.mul_pos hq (Nat.succ_pos a)), rfl, rfl, fun j h1 h2 => (st_z h1 h2).elim, rfl⟩ ?_
  rintro k m1 g1 n1 le1 ⟨s, us, hs, hk0, hus, rfl, hmin, rfl⟩
  have hR1 := hR.le le1
  have hbig := hR.big
  clear hR le1
  walk_at "M.go"
  have hl1 : ((us ++ [T s]).length : Int).fmod 2 = ((s + 1) % 2 : Nat) := by
    rw [List.length_append, hus, Int.fmod_eq_emod_of_nonneg _ (by walk_at "M.om")]
    push_cast
    rfl
  have hnext : q * (a + 1) ≤ 100000 → ∀ j, 0 < j → 2 * j ≤ s + 1 → (2 * j = s + 1 → P j ≠ P (2 * j)) → P j ≠ P (2 * j) := fun _ j h1 h2 h3 => by
    by_cases h : 2 * j ≤ s
    · exact hmin j h1 h
    · exact h3 (st_j h2 h)
  refine ⟨fun hz => ?_, fun hz => ?_⟩
  · rw [hl1, beq_iff_eq] at hz
    have hev := half_e (nz_of hz)
    clear hz hl1
    walk_at "M.go"
    refine ⟨fun hz2 => ?_, fun hz2 => ?_⟩
    · have hmt : P (s + 1) = P (s / 2 + 1) := of_decide_eq_true hz2
      walk_at "M.go"
      intro t g2 le2 ht
      refine ⟨t, l, _, rfl, rfl, ht, ?_⟩
      rw [List.length_append, hus, show s + [T s].length = 2 * (s / 2 + 1) from hev.2.symm]
      exact met_of hq hper (Nat.succ_pos _) (by rw [hev.2]; exact hmt.symm) (fun j h1 h2 => hmin j h1 (st_y hev.2 h2))
    · have hmt : ¬ P (s + 1) = P (s / 2 + 1) := of_decide_eq_false hz2
      walk_at "M.go"
      have hne : s + 1 ≠ 2 * (q * (a + 1)) := fun e => hmt (by
        have e2 : s / 2 + 1 = q * (a + 1) := st_n hev.2 e
        have := (meet (s := q * (a + 1)) (Nat.mul_pos hq (Nat.succ_pos a)) hq hper).mpr ⟨by calc a ≤ 1 * (a + 1) := st_1 a
                                                                     _ ≤ q * (a + 1) := Nat.mul_le_mul_right _ hq, by simp⟩
        rw [e, e2]; exact this.symm)
      refine ⟨k - 1, st_b hk0, s + 1, _, st_a hs hk0, st_c hs hk0 hne, by rw [List.length_append, hus]; rfl, rfl, fun j h1 h2 => hnext hbig j h1 h2 (fun e => ?_), by rw [hev.1]⟩
      rw [e, st_h hev.2 e]; exact fun z => hmt z.symm
  · have hz : ¬ (s + 1) % 2 = 0 := by rw [hl1, beq_eq_false_iff_ne] at hz; exact fun e => hz (by rw [e]; rfl)
    walk_at "M.go"
    have hod := half_o hz
    exact ⟨k - 1, st_b hk0, s + 1, _, st_a hs hk0, st_c hs hk0 (st_o hz), by rw [List.length_append, hus]; rfl, rfl, fun j h1 h2 => hnext hbig j h1 h2 (fun e => (st_x hz e).elim), by rw [hod]⟩
end Mine

local macro_rules | `(tactic| walk_at "M.raise") => `(tactic| (refine' Mine.SX.raise ?hk ?hx ?_; (case hk => walk_at "M.om"); (case hx => walk_at "M.lk"); walk_at "M.go"; refine Mine.EX.lstF ?_; walk_at "M.go"; intro _ _ _ _; walk_at "M.go"; exact ⟨_, _, rfl, rfl, fun _ _ => trivial⟩))
namespace Mine
variable {c : Cx} {m : Loc} {g : View} {n : Led} {Φ : Post} {Ψ : XPost} {F : FPost}
theorem things_of_ring {w : World} {h₀ : Heap} {P : Nat → Addr} {T : Nat → Value} {a q : Nat} (hR : Ring g P T a q) : FR w h₀ (.ref 256) [.ref (P 0)] g 4 := by
  refine FR.of ?_
  refine' FN.of (ps := ["value"]) (rest := ["things", "tail"]) (ds := []) ?ho ?hcd ?hb ?hl ?hn ?hnd ?hc ?hco ?hg ?hk ?h
  walk_at "M.def"
  walk_at "M.go"
  refine CA.fn (split_ring_fn (by walk_at "M.ring")) (by walk_at "M.om") (fun v g' n' le fr z => ?_) (fun _ _ _ z => z.elim)
  obtain ⟨t, l, us, rfl, rfl, hT, hM⟩ := z
  dsimp only [HAppend.hAppend, Append.append, List.append]
  walk_at "M.go"
  walk_at "M.raise"
end Mine

namespace Mine
variable {c : Cx} {m : Loc} {g : View} {n : Led} {Φ : Post} {Ψ : XPost} {F : FPost}
theorem St.dropL {h : Heap} : ∀ {l : Led}, St c m g (l ++ n) h → St c m g n h
  | [], S => S
  | _ :: _, S => St.dropL S.drop
theorem St.lose {h h' : Heap} {a : Addr} {P : Obj → Prop} (S : St c m g ((a, P) :: n) h) (h0 : c.h0.get? a = none) (hx : Heap.ExtBut a h h') : St c m g n h' := by
  have other : ∀ b o, b ≠ a → h.get? b = some o → h'.get? b = some o := fun b o hb e => hx b o hb e
  have nd := List.nodup_cons.mp S.sits.nd
  have hL : c.L ≠ a := fun q => S.Ln (by rw [q]; exact .head _)
  refine { S.drop with
    sits := ⟨fun b o e => other b o (fun q => by rw [q, S.sits.off a (.head _)] at e; cases e) (S.sits.vw b o e), fun p hp => ?_, S.drop.sits.off, nd.2⟩
    loc := let ⟨m', ⟨o, es, ep, e, r⟩, y⟩ := S.loc; ⟨m', ⟨o, es, ep, other _ _ hL e, r⟩, y⟩
    fr := ?_
    keep := ⟨fun b o e => ?_, fun b o e hb => ?_⟩
    pins := fun p hp => let ⟨⟨o, es, ep, e, r⟩, b, d⟩ := S.pins p hp; ⟨⟨o, es, ep, other _ _ (fun q => S.fn _ b (by rw [q]; exact .head _)) e, r⟩, b, d⟩ }
  · obtain ⟨o, e, z⟩ := S.sits.ld p (.tail _ hp)
    exact ⟨o, other _ _ (ne_of_in (List.mem_map.mpr ⟨p, hp, rfl⟩) nd.1) e, z⟩
  · have : ∀ env ∈ c.outer, env.frame ≠ some a := fun env he q => S.fn a (List.mem_filterMap.mpr ⟨env, he, q⟩) (.head _)
    have go : ∀ l : List Env, (∀ env ∈ l, env.frame ≠ some a) → h.FunFrames emptyH l → h'.FunFrames emptyH l := by
      intro l
      induction l with
      | nil => intro _ _; trivial
      | cons env r ih =>
        rintro hne ⟨hk, ⟨L, o, hf, hn, ho2, hd⟩, hr⟩
        exact ⟨hk, ⟨L, o, hf, hn, other L o (fun q => hne env (.head _) (q ▸ hf)) ho2, hd⟩, ih (fun e he => hne e (.tail _ he)) hr⟩
    exact go _ this S.fr
  · obtain ⟨o1, e1⟩ := S.keep.1 b o e
    exact ⟨o1, other b o1 (fun q => by rw [q, h0] at e; cases e) e1⟩
  · have hne : b ≠ a := fun q => by rw [q, h0] at e; cases e
    obtain ⟨sl, q⟩ := (S.keep.2 b o e hb).2
    exact ⟨fun hf => other b o hne ((S.keep.2 b o e hb).1 hf), sl, other _ _ hne q⟩
def AG (c : Cx) (m : Loc) (g : View) (n : Led) (target : Expr) (u : Value) (K : Loc → Prop) : Prop := ∀ u', Is u u' → ∀ (s : Shared) (Q : Unit → Shared → Prop) (E : Value → Shared → Prop), St c m g n s.heap →
  (∀ m' h' tk, K m' → St c m' g n h' → Q () { s with heap := h', toks := tk }) → wpAny (model PR c.w) c.A (PySem.assign target c.env u') Q E s
theorem AG.name {x : Str} {px : Pos} {u : Value} {m' : Loc} {K : Loc → Prop} (P : Put x u m m') (h : K m') : AG c m g n (.Name x px) u K := fun u' hu s Q E S hQ => wpAny_assign_Name (store_sig S P hu fun h' tk S' => hQ m' h' tk h S')
def Itr (c : Cx) (target : Expr) (it : Addr) (LI : Nat → Led) (len : Nat) (PI : Nat → Value → View → Prop) (i : Nat) (m : Loc) (g : View) (n : Led) : Prop := ∀ Ψ : XPost,
  (i < len → DO c m g (LI i ++ n) (pyNext (.ref it)) (fun o g' n' => ∃ u u', o = some u' ∧ Is u u' ∧ PI i u g' ∧ DO c m g' n' (letOwnedTupleGo target (.ref it) u') (fun _ g'' n'' => g'' = g' ∧ n'' = LI (i + 1) ++ n) Ψ) Ψ) ∧
  (i = len → DO c m g (LI i ++ n) (pyNext (.ref it)) (fun o g' n' => o = none ∧ n' = n) Ψ)
def ForP (c : Cx) (LI : Nat → Led) (I : Nat → Loc → View → Led → Prop) (i : Nat) (rest : List Stmt) (F : FPost) (Ψ : XPost) : FPost := fun f m g n => match f with
  | .next | .cont => ∃ n1, n = LI (i + 1) ++ n1 ∧ I (i + 1) m g n1
  | .brk => ∃ n1, n = LI (i + 1) ++ n1 ∧ SX c m g n1 rest F Ψ
  | .ret v => ∃ n1, n = LI (i + 1) ++ n1 ∧ F (.ret v) m g n1
theorem ForP.next {LI : Nat → Led} {I : Nat → Loc → View → Led → Prop} {i : Nat} {rest : List Stmt} (h : ∃ n1, n = LI (i + 1) ++ n1 ∧ I (i + 1) m g n1) : ForP c LI I i rest F Ψ .next m g n := h
theorem ForP.cont {LI : Nat → Led} {I : Nat → Loc → View → Led → Prop} {i : Nat} {rest : List Stmt} (h : ∃ n1, n = LI (i + 1) ++ n1 ∧ I (i + 1) m g n1) : ForP c LI I i rest F Ψ .cont m g n := h
theorem ForP.brk {LI : Nat → Led} {I : Nat → Loc → View → Led → Prop} {i : Nat} {rest : List Stmt} (h : ∃ n1, n = LI (i + 1) ++ n1 ∧ SX c m g n1 rest F Ψ) : ForP c LI I i rest F Ψ .brk m g n := h
theorem ForP.ret {LI : Nat → Led} {I : Nat → Loc → View → Led → Prop} {i : Nat} {rest : List Stmt} {v : Value} (h : ∃ n1, n = LI (i + 1) ++ n1 ∧ F (.ret v) m g n1) : ForP c LI I i rest F Ψ (.ret v) m g n := h
/- what an iterable gives: an iterator, and what a loop over it does -/
def Self (c : Cx) (it : Addr) (LI : Nat → Led) (m : Loc) (g : View) (n : Led) : Prop := ∀ (s : Shared) (Q : Value → Shared → Prop) (E : Value → Shared → Prop), St c m g (LI 0 ++ n) s.heap → Q (.ref it) s → wpAny (model PR c.w) c.A (pyIter (.ref it)) Q E s
abbrev KI := (Nat → Led) → Nat → (Nat → Value → View → Prop) → (View → Led → Prop) → View → Led → Prop
inductive ItP (c : Cx) (target : Expr) (K : KI) (it' : Value) (g2 : View) (n2 : Led) : Prop
  | mk (it : Addr) (LI : Nat → Led) (len : Nat) (PI : Nat → Value → View → Prop) (J : View → Led → Prop) (n0 : Led) (e1 : it' = .ref it) (e2 : n2 = LI 0 ++ n0)
    (hSelf : ∀ c' : Cx, ∀ m g n, Self c' it LI m g n) (hItr : ∀ c' : Cx, c'.h0 = c.h0 → ∀ i m g n n', i ≤ len → J g n' → (∀ p ∈ n', p ∈ n) → Itr c' target it LI len PI i m g n) (hK : K LI len PI J g2 n0) : ItP c target K it' g2 n2
def Iter (c : Cx) (m : Loc) (g : View) (n : Led) (target : Expr) (v : Value) (K : KI) (Ψ : XPost) : Prop :=
  ∀ v', Is v v' → DO c m g n (pyIter v') (fun it' g2 n2 => ItP c target K it' g2 n2) Ψ
inductive ForK (c : Cx) (m : Loc) (target : Expr) (body : List Stmt) (rest : List Stmt) (F : FPost) (Ψ : XPost) (LI : Nat → Led) (len : Nat) (PI : Nat → Value → View → Prop) (J : View → Led → Prop) (g2 : View) (n2 : Led) : Prop
  | mk (I : Nat → Loc → View → Led → Prop) (hI0 : I 0 m g2 n2) (hIJ : ∀ i m g n, I i m g n → J g n)
      (turn : ∀ i u m1 g0 g1 n1, Le g2 g0 → i < len → I i m1 g0 n1 → Le g0 g1 → PI i u g1 → AG c m1 g1 (LI (i + 1) ++ n1) target u (fun m' => SX c m' g1 (LI (i + 1) ++ n1) body (ForP c LI I i rest F Ψ) Ψ))
      (done : ∀ m1 g0 g1 n1, Le g2 g0 → I len m1 g0 n1 → Le g0 g1 → SX c m1 g1 n1 rest F Ψ) : ForK c m target body rest F Ψ LI len PI J g2 n2
abbrev kIt (c : Cx) (m : Loc) (target : Expr) (K : KI) (Ψ : XPost) : Post := fun v g n => Iter c m g n target v K Ψ
theorem SX.forG {target iter : Expr} {body : List Stmt} {pos : Pos} {rest : List Stmt}
    (h : EX c m g n iter (kIt c m target (ForK c m target body rest F Ψ) Ψ) Ψ)
    (hs : ∀ x, foldedSetIterable iter c.env x = pure x := by intro _; rfl) (hdf : c.comp = false := by assumption) : SX c m g n (.For target iter body [] pos :: rest) F Ψ := by
  refine SX.cons fun s Q E S hQ hE => wpAny_For ?_ hs
  refine h s _ E S (fun v' g1 n1 h1 tk1 z le1 S1 => ?_) fun x g' n' h' tk z le S' X => hE x m g' n' h' tk z le S' X
  obtain ⟨v, hv, z⟩ := z
  refine z v' hv { s with heap := h1, toks := tk1 } _ E S1 (fun it' g2 n2 h2 tk2 z le2 S2 => ?_) fun x g' n' h' tk z le S' X => hE x m g' n' h' tk z (le1.trans le) S' X
  obtain ⟨it, LI, len, PI, J, n0, rfl, rfl, _, hItr, I, hI0, hIJ, turn, done⟩ := z
  have le02 := le1.trans le2
  have hE' : ∀ {g1 : View}, Le g g1 → ∀ x m' g' n' h' tk', Ψ g' n' → Le g1 g' → St c m' g' n' h' → Sig c g' n' x h' → notedBy (model PR c.w) c.A c.env (cameBackBy (model PR c.w) c.A c.env E) (.ref x) { s with heap := h', toks := tk' } :=
    fun le x m' g' n' h' tk' z le' S' X' => noted_sig hdf (s := { s with heap := h', toks := tk' }) S' X' fun h'' S'' X'' => hE x m' g' n' h'' tk' z (le.trans le') S'' X''
  refine codeAny_forLoop_any (fun k s' => ∃ i m1 g1 n1 h1 tk, s' = { s with heap := h1, toks := tk } ∧ Le g2 g1 ∧ St c m1 g1 (LI i ++ n1) h1 ∧ I i m1 g1 n1 ∧ i + k = len) ?_ len ⟨0, m, g2, n0, h2, tk2, rfl, Le.rfl' _, S2, hI0, Nat.zero_add _⟩
  rintro k s' ⟨i, m1, g3, n1, h3, tk3, rfl, le3, S3, hI, hik⟩
  have T := hItr c rfl i m1 g3 n1 n1 (by walk_at "M.om") (hIJ _ _ _ _ hI) (fun _ h => h) Ψ
  have le03 := le02.trans le3
  by_cases hlt : i < len
  · refine T.1 hlt { s with heap := h3, toks := tk3 } _ _ S3 (fun o g4 n4 h4 tk4 z le4 S4 => ?_) fun x g' n' h' tk' z le' S' X' => hE' le03 x m1 g' n' h' tk' z le' S' X'
    obtain ⟨u, u', rfl, hu, hP, z⟩ := z
    dsimp only
    refine z { s with heap := h4, toks := tk4 } _ _ S4 (fun _ g5 n5 h5 tk5 z le5 S5 => ?_) fun x g' n' h' tk' z le' S' X' => hE' (le03.trans le4) x m1 g' n' h' tk' z le' S' X'
    obtain ⟨rfl, rfl⟩ := z
    refine turn i u m1 g3 g5 n1 le3 hlt hI le4 hP u' hu { s with heap := h5, toks := tk5 } _ _ S5 fun m' h6 tk6 hK S6 => ?_
    refine hK { s with heap := h6, toks := tk6 } _ _ S6 (fun f f' m7 g7 n7 h7 tk7 z hf le7 S7 => ?_) fun x m' g' n' h' tk' z le' S' X' => hE' (le03.trans le4) x m' g' n' h' tk' z le' S' X'
    cases hf with
    | next =>
      obtain ⟨n8, rfl, z⟩ := z
      exact ⟨k - 1, by walk_at "M.om", i + 1, m7, g7, n8, h7, tk7, rfl, (le3.trans le4).trans le7, S7, z, by walk_at "M.om"⟩
    | cont =>
      obtain ⟨n8, rfl, z⟩ := z
      exact ⟨k - 1, by walk_at "M.om", i + 1, m7, g7, n8, h7, tk7, rfl, (le3.trans le4).trans le7, S7, z, by walk_at "M.om"⟩
    | brk =>
      obtain ⟨n8, rfl, z⟩ := z
      exact hQ .next .next m7 g7 n8 h7 tk7 z .next ((le03.trans le4).trans le7) S7.dropL
    | ret hv =>
      obtain ⟨n8, rfl, z⟩ := z
      exact hQ (.ret _) (.ret _) m7 g7 n8 h7 tk7 z (.ret hv) ((le03.trans le4).trans le7) S7.dropL
  · obtain rfl : i = len := by omega
    refine T.2 rfl { s with heap := h3, toks := tk3 } _ _ S3 (fun o g4 n4 h4 tk4 z le4 S4 => ?_) fun x g' n' h' tk' z le' S' X' => hE' le03 x m1 g' n' h' tk' z le' S' X'
    obtain ⟨rfl, rfl⟩ := z
    dsimp only
    exact wpAny_execs_nil (hQ .next .next m1 g4 n4 h4 tk4 (done m1 g3 g4 n4 le3 hI le4) .next (le03.trans le4) S4)
def ItL (l : Addr) (i : Nat) (o : Obj) : Prop := o.cls = .type "list_iterator" ∧ o.data = .fields #[.ref l, .int i 0]
theorem LAt.mono {n' : Led} {l us} (h : LAt g n l us) (k : ∀ p ∈ n, p ∈ n') : LAt g n' l us := h.imp id (k _)
theorem Iter.lst {x : Str} {px : Pos} {l : Addr} {us : List Value} {K : KI} (hl : LAt g n l us) (h : ∀ it, K (fun i => [(it, ItL l i)]) us.length (fun i u _ => us[i]? = some u) (fun g n => LAt g n l us) g n) : Iter c m g n (.Name x px) (.ref l) K Ψ := fun v' hv s Q E S hQ hE => by
  obtain rfl := hv.ref
  obtain ⟨its, hL, _, _⟩ := hl.isL S
  have hnew := S.keep.old (Heap.get?_fresh s.heap)
  refine wpAny_pyIter_list hL (hQ _ g _ _ s.toks ⟨s.heap.objs.size, fun i => [(s.heap.objs.size, ItL l i)], us.length, _, _, n, rfl, rfl, fun c m g n s Q E S hQ => ?_, fun c hc0 i m g n n' hi hI' hsub Ψ => ⟨fun hlt => ?_, fun e => ?_⟩, h _⟩ (Le.rfl' g) (S.newOwn { cls := .type "list_iterator", data := .fields #[.ref l, .int 0 0] } ⟨rfl, rfl⟩))
  · obtain ⟨o, ho, hc, hd⟩ := S.sits.ld _ (.head _)
    exact wpAny_pyIter_listiter ⟨o, ho, hc, hd⟩ hQ
  · intro s Q E S hQ hE
    obtain ⟨o, ho, hc, hd⟩ := S.sits.ld _ (.head _)
    obtain ⟨its, hL, hA, e0⟩ := (hI'.mono hsub).isL S.drop
    obtain ⟨v, e1, e2⟩ := hA.get (List.getElem?_eq_getElem hlt)
    refine wpAny_pyNext_list_item ⟨o, ho, hc, hd⟩ hL (by rw [← Array.getElem?_toList]; exact e1) fun h' hit hs => ?_
    obtain ⟨o', ho', hc', hd'⟩ := hit
    exact hQ _ g _ h' s.toks ⟨us[i], v, rfl, e2, List.getElem?_eq_getElem hlt, DO.pure ⟨rfl, rfl⟩⟩ (Le.rfl' g) (S.swap .head hs ho' ⟨hc', hd'⟩)
  · intro s Q E S hQ hE
    obtain ⟨o, ho, hc, hd⟩ := S.sits.ld _ (.head _)
    obtain ⟨its, hL, hA, e0⟩ := (hI'.mono hsub).isL S.drop
    refine wpAny_pyNext_list_end S.hh ⟨o, ho, hc, hd⟩ hL (by rw [Array.getElem?_eq_none]; omega) fun h' hx => ?_
    exact hQ none g n h' s.toks ⟨rfl, rfl⟩ (Le.rfl' g) (S.lose (by rw [hc0]; exact hnew) hx)
def ItR (x left step : Int) (o : Obj) : Prop := o = { cls := .type "range_iterator", dict := none, data := .fields #[rawInt x, rawInt left, rawInt step], slots := #[] }
def Rng (g : View) (r : Addr) (a b k : Int) : Prop := ∃ t u v, g r = some { cls := .type "range", dict := none, data := .fields #[.int a t, .int b u, .int k v], slots := #[] }
theorem CA.range1 {b : Int} {t : Tok} (h : ∀ r g1, Le g g1 → Rng g1 r 0 b 1 → Φ (.ref r) g1 n) : CA c m g n (.type "range") [.int b t] Φ Ψ := fun vs' hv s Q E S hQ hE => by
  cases hv with | cons h1 h2 =>
    cases h2; obtain ⟨t', rfl⟩ := h1.int
    obtain ⟨S2, le⟩ := S.newObj { cls := .type "range", dict := none, data := .fields #[.int 0 s.toks, .int b t', .int 1 (s.toks + 1)], slots := #[] }
    exact call_range_1 (hQ _ _ n _ _ ⟨_, Is.rfl' _, h _ _ le ⟨_, _, _, gset_self⟩⟩ le S2)
theorem CA.range3 {a b k : Int} {t u v : Tok} (hk : k ≠ 0) (hp : Builtin.divisionGoesByPylong (b - a) k = false) (h : ∀ r g1, Le g g1 → Rng g1 r a b k → Φ (.ref r) g1 n) : CA c m g n (.type "range") [.int a t, .int b u, .int k v] Φ Ψ := fun vs' hv s Q E S hQ hE => by
  cases hv with | cons h1 h2 => cases h2 with | cons h3 h4 => cases h4 with | cons h5 h6 =>
    cases h6; obtain ⟨t', rfl⟩ := h1.int; obtain ⟨u', rfl⟩ := h3.int; obtain ⟨v', rfl⟩ := h5.int
    obtain ⟨S2, le⟩ := S.newObj { cls := .type "range", dict := none, data := .fields #[.int a t', .int b u', .int k v'], slots := #[] }
    exact call_range_3 hk (hQ _ _ n _ _ ⟨_, Is.rfl' _, h _ _ le ⟨_, _, _, gset_self⟩⟩ le S2) (.inl hp)
theorem Iter.rng {x : Str} {px : Pos} {r : Addr} {a b k : Int} {len : Nat} {K : KI} (hr : Rng g r a b k) (hs : Builtin.Range.small a b k = true)
    (hlen : Builtin.Range.rangeSize a b k = (len : Int)) (h : ∀ it, K (fun i => [(it, ItR (a + i * k) (len - i) k)]) len (fun i u _ => u = .int (a + i * k) 0) (fun _ _ => True) g n) : Iter c m g n (.Name x px) (.ref r) K Ψ := fun v' hv s Q E S hQ hE => by
  obtain rfl := hv.ref
  obtain ⟨t, u, v, hr⟩ := hr
  have hnew := S.keep.old (Heap.get?_fresh s.heap)
  refine wpAny_pyIter_range (S.sits.vw _ _ hr) hs (hQ _ g _ _ s.toks ⟨s.heap.objs.size, fun i => [(s.heap.objs.size, ItR (a + i * k) (len - i) k)], len, _, _, n, rfl, rfl, fun c m g n s Q E S hQ => ?_, fun c hc0 i m g n n' hi hI' hsub Ψ => ⟨fun hlt => ?_, fun e => ?_⟩, h _⟩ (Le.rfl' g)
    (S.newOwn { cls := .type "range_iterator", data := .fields #[rawInt a, rawInt (Builtin.Range.rangeSize a b k), rawInt k] } (by unfold ItR; rw [hlen]; simp)))
  · obtain ⟨o, ho, rfl⟩ := S.sits.ld _ (.head _)
    dsimp only at ho
    exact wpAny_pyIter_rangeiter ho hQ
  · intro s Q E S hQ hE
    obtain ⟨o, ho, rfl⟩ := S.sits.ld _ (.head _)
    dsimp only at ho
    refine wpAny_pyNext_range_item ho (by walk_at "M.om") fun h' hit hs => ?_
    exact hQ _ g _ h' _ ⟨.int (a + i * k) 0, _, rfl, ⟨_, rfl⟩, rfl, DO.pure ⟨rfl, rfl⟩⟩ (Le.rfl' g) (S.swap .head hs hit (by unfold ItR; rw [show a + ((i + 1 : Nat) : Int) * k = a + i * k + k from by push_cast; rw [Int.add_mul, Int.one_mul, Int.add_assoc], show (len : Int) - ((i + 1 : Nat) : Int) = len - i - 1 from by push_cast; omega]))
  · intro s Q E S hQ hE
    obtain ⟨o, ho, rfl⟩ := S.sits.ld _ (.head _)
    dsimp only at ho
    refine wpAny_pyNext_range_end S.hh ho (by walk_at "M.om") fun h' hx => ?_
    exact hQ none g n h' s.toks ⟨rfl, rfl⟩ (Le.rfl' g) (S.lose (by rw [hc0]; exact hnew) hx)
end Mine

local macro_rules | `(tactic| walk_at "M.ca") => `(tactic| first
  | ((with_reducible refine (?_ : Mine.CA _ _ _ _ (Value.ref 364) [Value.ref _] _ _)); refine Mine.CA.ft (Mine.ring_of_fn (by walk_at "M.ring")) (by walk_at "M.om") ?_; intro _ _ _ hv; obtain ⟨_, h1, _⟩ := hv; subst h1)
  | ((with_reducible refine (?_ : Mine.CA _ _ _ _ (Value.ref 256) [Value.ref _] _ _)); exact Mine.CA.fr (Mine.things_of_ring (by walk_at "M.ring")) (by walk_at "M.om") (fun _ _ => trivial)))
local macro_rules | `(tactic| walk_at "M.deff") => `(tactic| (refine Mine.FR.of ?_; refine' Mine.FN.of (ds := []) ?ho ?hcd ?hb ?hl ?hn ?hnd ?hc ?hco ?hg ?hk ?h))
namespace Mine
variable {c : Cx} {m : Loc} {g : View} {n : Led} {Φ : Post} {Ψ : XPost} {F : FPost}
theorem CO.intIs {i : Int} {t : Tok} {a : Addr} (h : Φ (.bool false) g n) : CO c m g n .Is (.int i t) (.ref a) Φ Ψ := fun u' v' hu hv => DO.val h fun s Q E S hQ => by
  obtain ⟨_, rfl⟩ := hu.int; obtain rfl := hv.ref
  exact wpAny_is_other rfl (by intro q; cases q) (hQ _ s.heap s.toks (Is.rfl' _) S)
theorem EX.compR {elt target iter : Expr} {ifs : List Expr} {rest : List Comprehension} {scope : Scope} {pos : Pos} (h : EX c m g n iter (fun _ _ _ => False) Ψ)
    (hfree : (scope.names.all fun x => !(x.2 == .free)) = true) (hkind : scope.kind = .function) (hnames : (scope.names.all fun x => x.2 != .local || scope.names.lookup x.1 == some .local) = true)
    (hs : ∀ x, foldedSetIterable iter c.env x = pure x := by intro _; rfl) : EX c m g n (.ListComp elt (⟨target, iter, ifs, 0⟩ :: rest) scope pos) Φ Ψ := fun s Q E S hQ hE =>
  wpAny_ListComp (fun x hx e => by have := List.all_eq_true.mp hfree x hx; rw [e] at this; exact absurd this (by decide)) hkind
    (fun x hx e => by have := List.all_eq_true.mp hnames x hx; rw [e] at this; simpa using this) (h s _ E S (fun a g' n' h' tk z _ _ => let ⟨_, _, k⟩ := z; k.elim) hE) hs
theorem things_in_ring {w : World} {h₀ : Heap} {P : Nat → Addr} {T : Nat → Value} {a q : Nat} (hR : Ring g P T a q) : FR w h₀ (.ref 542) [.ref (P 0)] g 5 := by
  refine FR.of ?_
  refine' FN.of (ps := ["value"]) (rest := []) (ds := []) ?ho ?hcd ?hb ?hl ?hn ?hnd ?hc ?hco ?hg ?hk ?h
  walk_at "M.def"
  walk_at "M.go"
theorem last_pair_ring {w : World} {h₀ : Heap} {P : Nat → Addr} {T : Nat → Value} {a q : Nat} (hR : Ring g P T a q) : FR w h₀ (.ref 413) [.ref (P 0)] g 5 := by
  refine FR.of ?_
  refine' FN.of (ps := ["value"]) (rest := ["here"]) (ds := []) ?ho ?hcd ?hb ?hl ?hn ?hnd ?hc ?hco ?hg ?hk ?h
  walk_at "M.def"
  walk_at "M.go"
  walk_at "M.raise"
theorem left_out_ring {w : World} {h₀ : Heap} {P : Nat → Addr} {T : Nat → Value} {a q : Nat} {x y : Value} (hR : Ring g P T a q) : FR w h₀ (.ref 462) [x, .ref (P 0), y] g 5 := by
  refine FR.of ?_
  refine' FN.of (ps := ["thing", "value", "is_same"]) (rest := ["first", "here"]) (ds := []) ?ho ?hcd ?hb ?hl ?hn ?hnd ?hc ?hco ?hg ?hk ?h
  walk_at "M.def"
  walk_at "M.go"
end Mine
local macro_rules | `(tactic| walk_at "M.ca") => `(tactic| first
  | ((with_reducible refine (?_ : Mine.CA _ _ _ _ (Value.ref 542) [Value.ref _] _ _)); exact Mine.CA.fr (Mine.things_in_ring (by walk_at "M.ring")) (by walk_at "M.om") (fun _ _ => trivial))
  | ((with_reducible refine (?_ : Mine.CA _ _ _ _ (Value.ref 413) [Value.ref _] _ _)); exact Mine.CA.fr (Mine.last_pair_ring (by walk_at "M.ring")) (by walk_at "M.om") (fun _ _ => trivial))
  | ((with_reducible refine (?_ : Mine.CA _ _ _ _ (Value.ref 462) [_, Value.ref _, _] _ _)); exact Mine.CA.fr (Mine.left_out_ring (by walk_at "M.ring")) (by walk_at "M.om") (fun _ _ => trivial)))
local macro_rules | `(tactic| walk_at "M.co") => `(tactic| with_reducible refine Mine.CO.intIs ?_)
namespace Mine
variable {c : Cx} {m : Loc} {g : View} {n : Led} {Φ : Post} {Ψ : XPost} {F : FPost}
section
variable {w : World} {h₀ : Heap} {P : Nat → Addr} {T : Nat → Value} {a q : Nat} {x : Value} {l : Addr} {k : Int} {tk : Tok}
theorem length_ring (hR : Ring g P T a q) (hL : Lst g l [.ref (P 0)]) : FR w h₀ (.ref 561) [x, .ref l] g 6 := by
  refine FR.of ?_
  refine' FN.of (ps := ["world", "args"]) (rest := []) (ds := []) ?ho ?hcd ?hb ?hl ?hn ?hnd ?hc ?hco ?hg ?hk ?h
  walk_at "M.def"
  walk_at "M.go"
theorem reverse_ring (hR : Ring g P T a q) (hL : Lst g l [.ref (P 0)]) : FR w h₀ (.ref 610) [x, .ref l] g 6 := by
  refine FR.of ?_
  refine' FN.of (ps := ["world", "args"]) (rest := []) (ds := []) ?ho ?hcd ?hb ?hl ?hn ?hnd ?hc ?hco ?hg ?hk ?h
  walk_at "M.def"
  walk_at "M.go"
theorem nreverse_ring (hR : Ring g P T a q) (hL : Lst g l [.ref (P 0)]) : FR w h₀ (.ref 617) [x, .ref l] g 6 := by
  refine FR.of ?_
  refine' FN.of (ps := ["world", "args"]) (rest := ["found", "here", "rest"]) (ds := []) ?ho ?hcd ?hb ?hl ?hn ?hnd ?hc ?hco ?hg ?hk ?h
  walk_at "M.def"
  walk_at "M.go"
theorem copy_ring (hR : Ring g P T a q) (hL : Lst g l [.ref (P 0)]) : FR w h₀ (.ref 603) [x, .ref l] g 6 := by
  refine FR.of ?_
  refine' FN.of (ps := ["world", "args"]) (rest := []) (ds := []) ?ho ?hcd ?hb ?hl ?hn ?hnd ?hc ?hco ?hg ?hk ?h
  walk_at "M.def"
  walk_at "M.go"
theorem delq_ring (hR : Ring g P T a q) (hL : Lst g l [.int k tk, .ref (P 0)]) : FR w h₀ (.ref 469) [x, .ref l] g 6 := by
  refine FR.of ?_
  refine' FN.of (ps := ["world", "args"]) (rest := []) (ds := []) ?ho ?hcd ?hb ?hl ?hn ?hnd ?hc ?hco ?hg ?hk ?h
  walk_at "M.def"
  walk_at "M.go"
end
end Mine

namespace Mine
variable {c : Cx} {m : Loc} {g : View} {n : Led} {Φ : Post} {Ψ : XPost} {F : FPost}
theorem bindL_off {kindOf : Str → Option NameKind} {x : Str} : ∀ (bs : List (Str × Value)) (m : Str → Option Value), x ∉ bs.map (·.1) → bindL kindOf bs m x = m x
  | [], _, _ => rfl
  | (y, v) :: r, m, h => by
    unfold bindL
    rw [bindL_off r _ (fun q => h (.tail _ q))]
    split
    · exact if_neg (fun q => h (by rw [q]; exact .head _))
    · rfl
theorem bindL_on {kindOf : Str → Option NameKind} {x : Str} {v : Value} : ∀ (bs : List (Str × Value)) (m : Str → Option Value), (bs.map (·.1)).Nodup → (x, v) ∈ bs → kindOf x = some .local → bindL kindOf bs m x = some v
  | (y, w) :: r, m, nd, h, hk => by
    have nd := List.nodup_cons.mp nd
    unfold bindL
    rcases List.mem_cons.mp h with e | h
    · cases e
      rw [bindL_off r _ nd.1, if_pos hk, if_pos rfl]
    · exact bindL_on r _ nd.2 h hk
theorem bindC_off {kindOf : Str → Option NameKind} {x : Str} : ∀ (bs : List (Str × Value)) (m : Str → Option Value), x ∉ bs.map (·.1) → bindC kindOf bs m x = m x
  | [], _, _ => rfl
  | (y, v) :: r, m, h => by
    unfold bindC
    rw [bindC_off r _ (fun q => h (.tail _ q))]
    split
    · rfl
    · exact if_neg (fun q => h (by rw [q]; exact .head _))
theorem bindC_on {kindOf : Str → Option NameKind} {x : Str} {v : Value} : ∀ (bs : List (Str × Value)) (m : Str → Option Value), (bs.map (·.1)).Nodup → (x, v) ∈ bs → kindOf x ≠ some .local → bindC kindOf bs m x = some v
  | (y, w) :: r, m, nd, h, hk => by
    have nd := List.nodup_cons.mp nd
    unfold bindC
    rcases List.mem_cons.mp h with e | h
    · cases e
      rw [bindC_off r _ nd.1, if_neg hk, if_pos rfl]
    · exact bindC_on r _ nd.2 h hk
theorem zip_names {ps : List Str} {vs : List Value} (h : vs.length = ps.length) : (ps.zip vs).map (·.1) = ps := List.map_fst_zip (by walk_at "M.om")
theorem zip_is {ps : List Str} {us vs : List Value} (h : AllIs us vs) : ∀ x u, (x, u) ∈ ps.zip us → ∃ v, (x, v) ∈ ps.zip vs ∧ Is u v := by
  induction h generalizing ps with
  | nil => intro x u hm; simp at hm
  | cons h0 _ ih =>
    intro x u hm
    cases ps with
    | nil => simp at hm
    | cons p ps =>
      rw [List.zip_cons_cons] at hm ⊢
      rcases List.mem_cons.mp hm with e | hm
      · cases e; exact ⟨_, .head _, h0⟩
      · obtain ⟨v, a, b⟩ := ih x u hm
        exact ⟨v, .tail _ a, b⟩
def CellV (c : Cx) (g : View) (x : Str) (v : Value) : Prop := ∃ a o v', c.cl.lookup x = some a ∧ g a = some o ∧ o.data = .cell (some v') ∧ Is v v'
theorem CellV.le {g g' : View} {x v} (h : CellV c g x v) (k : Le g g') : CellV c g' x v := let ⟨a, o, v', h1, h2, h3, h4⟩ := h; ⟨a, o, v', h1, k _ _ h2, h3, h4⟩
theorem CellV.leR {g g' : View} {x v} (k : Le g g') (h : CellV c g x v) : CellV c g' x v := h.le k
theorem EX.cellV {x : Str} {pos : Pos} {v : Value} (hx : c.sc.names.lookup x = some .cell) (hc : CellV c g x v) (hb : (x == ("__debug__" : Str)) = false) (h : Φ v g n) : EX c m g n (.Name x pos) Φ Ψ :=
  let ⟨a, o, v', h1, h2, h3, h4⟩ := hc; EX.cell hx h1 h2 h3 h4 hb h

def CelN (o : Obj) : Prop := o.data = .cell none
def CelV (v : Value) (o : Obj) : Prop := ∃ v', o.data = .cell (some v') ∧ Is v v'
theorem apart_of {l : List (Str × Addr)} (h : l.Pairwise fun x y => x.2 ≠ y.2) {x y : Str} {a : Addr} (hx : (x, a) ∈ l) (hy : (y, a) ∈ l) : x = y := by
  induction h with
  | nil => cases hx
  | @cons p r h0 _ ih =>
    rcases List.mem_cons.mp hx with e | hx
    · rcases List.mem_cons.mp hy with e' | hy
      · rw [← e] at e'; exact (Prod.mk.inj e').1.symm
      · exact absurd (by rw [← e]) (h0 _ hy)
    · rcases List.mem_cons.mp hy with e' | hy
      · exact absurd (by rw [← e']) (h0 _ hx)
      · exact ih hx hy
theorem EX.cellL {x : Str} {pos : Pos} {v : Value} {a : Addr} (hx : c.sc.names.lookup x = some .cell) (hc : c.cl.lookup x = some a) (ha : (a, CelV v) ∈ n) (hb : (x == ("__debug__" : Str)) = false) (h : Φ v g n) :
    EX c m g n (.Name x pos) Φ Ψ := DO.val h fun s Q E S hQ => by
  obtain ⟨o, ho, v', hd, hv⟩ := S.sits.ld _ ha
  exact wpAny_Name (wpAny_loadName_cell (env := c.env) S.hk hx hc ⟨o, ho, hd⟩ (hQ v' s.heap s.toks hv S)) hb

theorem FN.ofC {w : World} {h₀ : Heap} {f : Addr} {name qual : Str} {params : Arguments} {body : List Stmt} {scope : Scope} {dV kV doc pm cdv ct oc : Value} {an od : Option Addr} {osl : Array (Option Value)} {args : List Value} {k : Nat} {ps rest : List Str} {lps : List (Str × Value)} (cn : List Str)
    (ho : (KK w).lookup f = some ⟨oc, od, .func (fnOf name qual params body scope dV kV doc pm an cdv ct), osl⟩) (hcd : codeIn (KK w) cdv qual = true)
    (hbind : ∀ (vs : List Value), AllIs args vs → bindArgs (fnOf name qual params body scope dV kV doc pm an cdv ct) ⟨vs, []⟩ = pure (ps.zip vs))
    (hl : args.length = ps.length) (hlps : (ps.zip args).filter (fun p => scope.names.lookup p.1 == some .local) = lps)
    (hnames : ((ps ++ rest).all fun x => !(x == ("__debug__" : Str))) = true) (hps : (ps.all fun x => scope.names.lookup x == some .local || (scope.names.lookup x == some .cell && (scope.names.any fun y => y.1 == x && y.2 == .cell))) = true) (hrest : (rest.all fun x => scope.names.lookup x == some .local) = true)
    (hnd : (ps ++ rest).Nodup) (hcn : cn.Nodup) (hcn' : (cn.all fun x => !ps.contains x && (scope.names.any fun y => y.1 == x && y.2 == .cell)) = true) (hco : scope.isCoroutine = false) (hgen : scope.isGenerator = false) (hk : scope.kind = .function)
    (h : ∀ (c : Cx) (g1 : View) (ca : Str → Addr), c.w = w → c.h₀ = h₀ → c.sc = scope → c.k = k → c.n0 = addrs n → c.comp = false → c.cd = cdv → c.nm = qual → G0 w h₀ → Le g g1 → (∀ x v, (x, v) ∈ ps.zip args → scope.names.lookup x = some .cell → CellV c g1 x v) → (∀ x ∈ cn, c.cl.lookup x = some (ca x)) →
      SX c (lps.map (fun p => (p.1, some p.2)) ++ rest.map fun x => (x, none)) g1 (cn.map (fun x => (ca x, CelN)) ++ n) body (Out Φ) Ψ) :
    FN w h₀ (.ref f) args g n (k + 1) Φ Ψ := by
  intro A outer s R vs G hb hh hA hr hs hf hd hv hΦ hΨ
  have X : (KK w).In s.heap := fun a o e => hs.vw a o (hb a o (G.K a o e))
  refine G.elim fun p loose mean mg mb T => ?_
  have stays : ∀ b o, h₀.get? b = some o → s.heap.get? b = some o := fun b o e => hs.vw b o (hb b o e)
  have hlv : vs.length = ps.length := by rw [← hv.length, hl]
  have ndp : ((ps.zip vs).map (·.1)).Nodup := by rw [zip_names hlv]; exact (List.nodup_append.mp hnd).1
  have cellIn : ∀ (names : List (Str × NameKind)) (acc : List (Str × Addr)) (k : Nat) (x : Str), ((names.any fun y => y.1 == x && y.2 == .cell) = true ∨ (acc.lookup x).isSome = true) → ((cellsFrom k names acc).lookup x).isSome = true := by
    intro names
    induction names with
    | nil => intro acc k x h; exact h.resolve_left (by simp)
    | cons y r ih =>
      intro acc k x h
      obtain ⟨y1, y2⟩ := y
      unfold cellsFrom
      split
      · rename_i hy
        refine ih _ _ _ ?_
        by_cases e : x = y1
        · subst e; exact .inr (by rw [List.lookup_cons, beq_self_eq_true]; rfl)
        · rcases h with h | h
          · rw [List.any_cons] at h
            rcases Bool.or_eq_true_iff.mp h with h | h
            · simp only [Bool.and_eq_true, beq_iff_eq] at h; exact absurd h.1.symm e
            · exact .inl h
          · exact .inr (by rw [List.lookup_cons, beq_eq_false_iff_ne.mpr e]; exact h)
      · rename_i hy
        refine ih _ _ _ ?_
        rcases h with h | h
        · rw [List.any_cons] at h
          rcases Bool.or_eq_true_iff.mp h with h | h
          · simp only [Bool.and_eq_true, beq_iff_eq] at h; exact absurd (by rw [h.2]; rfl) hy
          · exact .inl h
        · exact .inr h
  have kinds : ∀ x ∈ ps, scope.names.lookup x = some .local ∨ (scope.names.lookup x = some .cell ∧ ((cellsFrom (s.heap.objs.size + 1) scope.names []).lookup x).isSome = true) := fun x hx => by
    have := List.all_eq_true.mp hps x hx
    simp only [Bool.or_eq_true, Bool.and_eq_true, beq_iff_eq] at this
    rcases this with q | ⟨q1, q2⟩
    · exact .inl q
    · exact .inr ⟨q1, cellIn _ _ _ _ (.inl (by simpa using q2))⟩
  refine codeAny_call_cells (fd := fnOf name qual params body scope dV kV doc pm an cdv ct) (body := body) (binds := ps.zip vs) (by have := hr.1; show A.depth < 1000; omega) (X _ _ ho) rfl ((T.nolimit).keeps stays) (codeRec_of X hcd) rfl (hbind vs hv) rfl
    (fun x hx => kinds x.1 (List.of_mem_zip hx).1) (fun s₁ IC => ?_) hco hgen hk
  obtain ⟨h₁, tk₁, rfl, hk₁⟩ := IC.done
  let cells := cellsFrom (s.heap.objs.size + 1) scope.names []
  let as := ps.filterMap fun x => cells.lookup x
  let g1 : View := fun b => if b ∈ as then h₁.get? b else g b
  let c : Cx := { w := w, h₀ := h₀, nm := qual, sc := scope, L := s.heap.objs.size, fn := some f, fa := s.heap.objs.size, comp := false, cd := cdv, cl := cells, A := A.deeper (envX qual scope s.heap.objs.size f cdv cells), outer := outer, k := k, g0 := g, n0 := addrs n, h0 := s.heap, pin := [] }
  have asP : ∀ b ∈ as, ∃ x ∈ ps, cells.lookup x = some b := fun b hb => by
    obtain ⟨x, hx, e⟩ := List.mem_filterMap.mp hb
    exact ⟨x, hx, e⟩
  have asNew : ∀ b ∈ as, s.heap.get? b = none ∧ b ≠ s.heap.objs.size := fun b hb => by
    obtain ⟨x, hx, e⟩ := asP b hb
    have : s.heap.objs.size < b := IC.above x b (mem_of_lookup e)
    exact ⟨Heap.get?_none_of_le (Nat.le_of_lt this), Nat.ne_of_gt this⟩
  have gNone : ∀ b, s.heap.get? b = none → g b = none := fun b e => by
    cases q : g b with
    | none => rfl
    | some o => rw [hs.vw b o q] at e; cases e
  have le1 : Le g g1 := fun b o e => by
    show (if b ∈ as then _ else _) = _
    rw [if_neg (fun q => by rw [gNone b (asNew b q).1] at e; cases e)]; exact e
  have g1off : ∀ b, g b = none → (∃ o, s.heap.get? b = some o) ∨ b = s.heap.objs.size → g1 b = none := fun b e q => by
    show (if b ∈ as then _ else _) = _
    rw [if_neg (fun z => by
      rcases q with ⟨o, q⟩ | q
      · rw [(asNew b z).1] at q; cases q
      · exact (asNew b z).2 q)]; exact e
  have ndl := List.nodup_append.mp hnd
  have mnames : (lps.map (fun p => (p.1, some p.2)) ++ rest.map fun x => (x, (none : Option Value))).map (·.1) = (ps.filter fun x => scope.names.lookup x == some .local) ++ rest := by
    rw [List.map_append, List.map_map, List.map_map]
    congr 1
    · rw [← hlps]
      have : ∀ (ps : List Str) (us : List Value), us.length = ps.length → ((ps.zip us).filter (fun p => scope.names.lookup p.1 == some .local)).map ((fun x : Str × Option Value => x.1) ∘ fun p => (p.1, some p.2)) = ps.filter fun x => scope.names.lookup x == some .local := by
        intro ps
        induction ps with
        | nil => intro us _; simp
        | cons p ps ih =>
          intro us e
          cases us with
          | nil => simp at e
          | cons u us =>
            rw [List.zip_cons_cons, List.filter_cons, List.filter_cons]
            dsimp only
            split
            · rw [List.map_cons, ih us (by simpa using e)]; rfl
            · exact ih us (by simpa using e)
      exact this ps args hl
    · rw [show ((fun x : Str × Option Value => x.1) ∘ fun x => (x, (none : Option Value))) = id from rfl, List.map_id]
  have nlt : ∀ a ∈ addrs n, ∃ o, s.heap.get? a = some o := fun a ha => by
    obtain ⟨p, hp, rfl⟩ := List.mem_map.mp ha
    obtain ⟨o, q, _⟩ := hs.ld p hp
    exact ⟨o, q⟩
  let ca : Str → Addr := fun x => (cells.lookup x).getD 0
  have hca : ∀ x ∈ cn, cells.lookup x = some (ca x) := fun x hx => by
    have := List.all_eq_true.mp hcn' x hx
    simp only [Bool.and_eq_true] at this
    obtain ⟨a, ha⟩ := Option.isSome_iff_exists.mp (cellIn scope.names [] (s.heap.objs.size + 1) x (.inl this.2))
    have ha : cells.lookup x = some a := ha
    show _ = some ((cells.lookup x).getD 0)
    rw [ha]; rfl
  have hcps : ∀ x ∈ cn, x ∉ ps := fun x hx => by
    have := List.all_eq_true.mp hcn' x hx
    simp only [Bool.and_eq_true, Bool.not_eq_true', List.contains_eq_mem] at this
    simpa using this.1
  have caNew : ∀ x ∈ cn, s.heap.get? (ca x) = none ∧ ca x ≠ s.heap.objs.size := fun x hx => by
    have : s.heap.objs.size < ca x := IC.above x _ (mem_of_lookup (hca x hx))
    exact ⟨Heap.get?_none_of_le (Nat.le_of_lt this), Nat.ne_of_gt this⟩
  have caAs : ∀ x ∈ cn, ca x ∉ as := fun x hx q => by
    obtain ⟨y, hy, e⟩ := asP _ q
    have := apart_of IC.apart (mem_of_lookup (hca x hx)) (mem_of_lookup e)
    exact hcps x hx (this ▸ hy)
  have caObj : ∀ x ∈ cn, ∃ o, h₁.get? (ca x) = some o ∧ CelN o := fun x hx => by
    obtain ⟨o, ho1, ho2⟩ := IC.cell x _ (hca x hx)
    refine ⟨o, ho1, ?_⟩
    unfold CelN
    rw [ho2, bindC_off _ _ (by rw [zip_names hlv]; exact hcps x hx)]
  have caddr : addrs (cn.map (fun x => (ca x, CelN)) ++ n) = cn.map ca ++ addrs n := by
    simp only [addrs, List.map_append, List.map_map]; rfl
  have caInj : (cn.map ca).Nodup := by
    have : ∀ l : List Str, l.Nodup → (∀ x ∈ l, x ∈ cn) → (l.map ca).Nodup := by
      intro l
      induction l with
      | nil => intro _ _; exact .nil
      | cons x r ih =>
        intro nd hs
        have nd := List.nodup_cons.mp nd
        refine List.nodup_cons.mpr ⟨fun q => ?_, ih nd.2 fun y hy => hs y (.tail _ hy)⟩
        obtain ⟨y, hy, e⟩ := List.mem_map.mp q
        have h1 := hca x (hs x (.head _))
        have h2 := hca y (hs y (.tail _ hy))
        rw [e] at h2
        exact nd.1 ((apart_of IC.apart (mem_of_lookup h1) (mem_of_lookup h2)) ▸ hy)
    exact this cn hcn fun _ h => h
  have S : St c (lps.map (fun p => (p.1, some p.2)) ++ rest.map fun x => (x, none)) g1 (cn.map (fun x => (ca x, CelN)) ++ n) h₁ :=
    { G := G, base := fun a o e => le1 a o (hb a o e), hA := by show (A.deeper _).frames = _; exact Around.frames_deeper hA, hdef := fun _ => rfl, hh := hh, hk := hk
      room := ⟨by have := hr.1; show A.depth + 1 + k ≤ 700; omega, by have := hr.2; show A.units + 3 + 20 * k ≤ 5000; omega⟩
      g0 := le1
      sits := ⟨fun a o e => by
          by_cases q : a ∈ as
          · have e' : (if a ∈ as then h₁.get? a else g a) = some o := e
            rwa [if_pos q] at e'
          · have e' : (if a ∈ as then h₁.get? a else g a) = some o := e
            rw [if_neg q] at e'
            exact hk₁ a o (hs.vw a o e'), fun p hp => by
            rcases List.mem_append.mp hp with hp | hp
            · obtain ⟨x, hx, rfl⟩ := List.mem_map.mp hp
              exact caObj x hx
            · obtain ⟨o, e, q⟩ := hs.ld p hp
              exact ⟨o, hk₁ _ _ e, q⟩, fun a ha => by
            rw [caddr] at ha
            rcases List.mem_append.mp ha with ha | ha
            · obtain ⟨x, hx, rfl⟩ := List.mem_map.mp ha
              show (if ca x ∈ as then _ else _) = _
              rw [if_neg (caAs x hx)]; exact gNone _ (caNew x hx).1
            · exact g1off a (hs.off a ha) (.inl (nlt a ha)), by
            rw [caddr]
            refine List.nodup_append.mpr ⟨caInj, hs.nd, fun a ha b hb e => ?_⟩
            subst e
            obtain ⟨x, hx, rfl⟩ := List.mem_map.mp ha
            obtain ⟨o, e⟩ := nlt _ hb
            rw [(caNew x hx).1] at e; cases e⟩
      loc := ⟨_, IC.toInCall.ns, fun x v hm => by
        rcases List.mem_append.mp hm with hm | hm
        · obtain ⟨p, hp, e⟩ := List.mem_map.mp hm
          cases e
          rw [← hlps] at hp
          obtain ⟨hp1, hp2⟩ := List.mem_filter.mp hp
          obtain ⟨v', hv1, hv2⟩ := zip_is hv p.1 p.2 hp1
          exact ⟨v', bindL_on _ _ ndp hv1 (beq_iff_eq.mp hp2), hv2⟩
        · obtain ⟨y, _, e⟩ := List.mem_map.mp hm
          cases e⟩
      mnd := by
        rw [mnames]
        exact List.nodup_append.mpr ⟨ndl.1.sublist List.filter_sublist, ndl.2.1, fun a ha b hb => ndl.2.2 a (List.mem_filter.mp ha).1 b hb⟩
      mloc := fun x hx => by
        rw [mnames] at hx
        have h1 : x ∈ ps ++ rest := (List.mem_append.mp hx).elim (fun q => List.mem_append_left _ (List.mem_filter.mp q).1) (fun q => List.mem_append_right _ q)
        have h2 := List.all_eq_true.mp hnames x h1
        refine ⟨?_, by simpa using h2⟩
        rcases List.mem_append.mp hx with q | q
        · exact beq_iff_eq.mp (List.mem_filter.mp q).2
        · exact beq_iff_eq.mp (List.all_eq_true.mp hrest x q)
      Lg := g1off _ (gNone _ (Heap.get?_fresh _)) (.inr rfl)
      Ln := fun q => by
        rw [caddr] at q
        rcases List.mem_append.mp q with q | q
        · obtain ⟨x, hx, e⟩ := List.mem_map.mp q
          exact (caNew x hx).2 e
        · exact let ⟨o, e⟩ := nlt _ q; Nat.lt_irrefl _ (Heap.lt_size e)
      fr := FunFrames.grow hk₁ hf
      fg := fun a ha => g1off a (hd a ha).1 (.inl (let ⟨_, o, q, _⟩ := hf.mem ha; ⟨o, q⟩))
      fn := fun a ha q => by
        rw [caddr] at q
        rcases List.mem_append.mp q with q | q
        · obtain ⟨x, hx, e⟩ := List.mem_map.mp q
          obtain ⟨_, o, z, _⟩ := hf.mem ha
          rw [← e, (caNew x hx).1] at z; cases z
        · exact (hd a ha).2 q
      keep := Keep.of_all hk₁
      new := fun a o e => by
        by_cases q : a ∈ as
        · exact .inr (asNew a q).1
        · have e' : (if a ∈ as then h₁.get? a else g a) = some o := e
          rw [if_neg q] at e'
          exact .inl e'
      nnew := fun a ha => by
        rw [caddr] at ha
        rcases List.mem_append.mp ha with ha | ha
        · obtain ⟨x, hx, rfl⟩ := List.mem_map.mp ha
          exact .inr (caNew x hx).1
        · exact .inl ha
      Lnew := Heap.get?_fresh _
      pins := fun p hp => nomatch hp }
  have ends : ∀ m' g' n' h', Le g1 g' → St c m' g' n' h' → Ends outer g n s.heap g' n' h' := fun m' g' n' h' le S' => ⟨le1.trans le, S'.sits, S'.keep, S'.new, S'.nnew⟩
  have hcells : ∀ x v, (x, v) ∈ ps.zip args → scope.names.lookup x = some .cell → CellV c g1 x v := fun x v hm hx => by
    obtain ⟨v', hv1, hv2⟩ := zip_is hv x v hm
    have hxp := (List.of_mem_zip hm).1
    rcases kinds x hxp with q | ⟨_, q⟩
    · rw [hx] at q; cases q
    · obtain ⟨a, ha⟩ := Option.isSome_iff_exists.mp q
      obtain ⟨o, ho1, ho2⟩ := IC.cell x a ha
      refine ⟨a, o, v', ha, ?_, ?_, hv2⟩
      · show (if a ∈ as then _ else _) = _
        rw [if_pos (List.mem_filterMap.mpr ⟨x, hxp, ha⟩)]; exact ho1
      · rw [ho2]
        congr 1
        exact bindC_on _ _ ndp hv1 (by show scope.names.lookup x ≠ _; rw [hx]; intro q; cases q)
  refine h c g1 ca rfl rfl rfl rfl rfl rfl rfl rfl G le1 hcells hca { s with heap := h₁, toks := tk₁ } _ _ S (fun fl fl' m' g' n' h' tk z hf le S' => ?_) fun x m' g' n' h' tk z le S' X' => ?_
  · cases hf with
    | ret hv' => exact hΦ _ _ g' n' h' tk z hv' (ends m' g' n' h' le S')
    | next => exact hΦ .none .none g' n' h' tk z rfl (ends m' g' n' h' le S')
    | cont => exact hΦ .none .none g' n' h' tk z rfl (ends m' g' n' h' le S')
    | brk => exact hΦ .none .none g' n' h' tk z rfl (ends m' g' n' h' le S')
  · refine leaving_sig (c := c) rfl (s := { s with heap := h', toks := tk }) S' X' fun h'' S'' X'' => ?_
    refine hΨ x g' n' h'' tk z (ends m' g' n' h'' le S'') ?_
    exact X''.mv fun a h1 h2 h3 => ⟨fun q => h2 (.tail _ q), h3, h1⟩
end Mine

namespace Mine
variable {c : Cx} {m : Loc} {g : View} {n : Led} {Φ : Post} {Ψ : XPost} {F : FPost}
theorem St.perm {h : Heap} {n' : Led} (S : St c m g n h) (p : n.Perm n') : St c m g n' h :=
  have pa : (addrs n).Perm (addrs n') := p.map _
  { S with
    sits := ⟨S.sits.vw, fun q hq => S.sits.ld q (p.mem_iff.mpr hq), fun a ha => S.sits.off a (pa.mem_iff.mpr ha), pa.nodup_iff.mp S.sits.nd⟩
    Ln := fun q => S.Ln (pa.mem_iff.mpr q)
    fn := fun a ha q => S.fn a ha (pa.mem_iff.mpr q)
    nnew := fun a ha => S.nnew a (pa.mem_iff.mpr ha) }
theorem St.lost {h h' : Heap} {a : Addr} {o : Obj} (S : St c m g n h) (ho : h.get? a = some o) (hg : g a = none) (hn : a ∉ addrs n) (hL : a ≠ c.L) (hf : a ∉ c.fs) (h0 : c.h0.get? a = none) (hx : Heap.ExtBut a h h') : St c m g n h' :=
  (S.claim (P := fun _ => True) hg hn hL hf h0 ho trivial).lose h0 hx
theorem Swap.app {a : Addr} {P P' : Obj → Prop} {n n' : Led} (h : Swap a P P' n n') : ∀ l : Led, Swap a P P' (l ++ n) (l ++ n')
  | [] => h
  | _ :: r => .tail (Swap.app h r)
theorem storeC_sig {x : Str} {v v' : Value} {P : Obj → Prop} {a : Addr} {n' : Led} {s : Shared} {Q : Unit → Shared → Prop} {E : Value → Shared → Prop} (S : St c m g n s.heap) (hx : c.sc.names.lookup x = some .cell) (hc : c.cl.lookup x = some a) (U : Swap a P (CelV v) n n') (hP : ∀ o, P o → ∃ u, o.data = .cell u) (hv : Is v v') (hQ : ∀ h' tk, St c m g n' h' → Q () { s with heap := h', toks := tk }) :
    wpAny (model PR c.w) c.A (storeName c.env x v') Q E s := by
  obtain ⟨o, ho, hp⟩ := S.sits.ld _ U.mem
  obtain ⟨u, hu⟩ := hP o hp
  refine wpAny_storeName_cell (env := c.env) S.hk hx hc ⟨o, ho, hu⟩ fun h' hc' hs => ?_
  obtain ⟨o', ho', hd'⟩ := hc'
  exact hQ h' s.toks (S.swap U hs ho' ⟨_, hd', hv⟩)
theorem CelN.cell : ∀ o, CelN o → ∃ u, o.data = .cell u := fun o h => ⟨_, h⟩
theorem CelV.cell {v : Value} : ∀ o, CelV v o → ∃ u, o.data = .cell u := fun o ⟨_, h, _⟩ => ⟨_, h⟩
abbrev kAsC (c : Cx) (m : Loc) (a : Addr) (rest : List Stmt) (F : FPost) (Ψ : XPost) : Post := fun v g1 n1 => ∃ P n2, Swap a P (CelV v) n1 n2 ∧ (∀ o, P o → ∃ u, o.data = .cell u) ∧ SX c m g1 n2 rest F Ψ
theorem SX.assignC {x : Str} {px pos : Pos} {e : Expr} {rest : List Stmt} {a : Addr} (hx : c.sc.names.lookup x = some .cell) (hc : c.cl.lookup x = some a)
    (h : EX c m g n e (kAsC c m a rest F Ψ) Ψ)
    (hs : swapsWith e (some (.Name x px)) pos.line c.env = pure false := by rfl) : SX c m g n (.Assign [.Name x px] e pos :: rest) F Ψ :=
  SX.cons fun s Q E S hQ hE => wpAny_Assign_Name (h s _ E S (fun a g1 n1 h1 tk z le S1 => by
    obtain ⟨v, hv, P, n2, U, hP, k⟩ := z
    exact storeC_sig (s := { s with heap := h1, toks := tk }) S1 hx hc U hP hv fun h' tk' S' => hQ .next .next m g1 n2 h' tk' k .next le S') fun x g' n' h' tk z le S' X => hE x m g' n' h' tk z le S' X) hs
def cloOf (f : Str → Addr) : List (Str × NameKind) → List (Str × Addr) → List (Str × Addr)
  | [], acc => acc
  | x :: r, acc => cloOf f r (if (x.2 == .free) = true then (x.1, f x.1) :: acc else acc)
theorem closFor {scope : Scope} {env : Env} {f : Str → Addr} (h : ∀ x ∈ scope.names, x.2 = .free → env.cells.lookup x.1 = some (f x.1)) : closureFor scope env = pure (cloOf f scope.names []) := by
  unfold closureFor
  generalize scope.names = l at h
  have : ∀ (l : List (Str × NameKind)) (acc : List (Str × Addr)), (∀ x ∈ l, x.2 = .free → env.cells.lookup x.1 = some (f x.1)) →
      Bind.bind (forIn l acc fun x r => if (x.2 == NameKind.free) = true then Bind.bind (cellOf env x.1) (fun a => pure (ForInStep.yield ((x.1, a) :: r))) else pure (ForInStep.yield r) : Sem (List (Str × Addr))) (fun r => pure r) = (pure (cloOf f l acc) : Sem (List (Str × Addr))) := by
    intro l
    induction l with
    | nil => intro acc _; rfl
    | cons x r ih =>
      intro acc h
      rw [List.forIn_cons]
      by_cases q : x.2 = .free
      · rw [if_pos (by rw [q]; rfl)]
        have e : cellOf env x.1 = pure (f x.1) := by unfold cellOf; rw [h x (.head _) q]
        rw [e]
        unfold cloOf
        rw [if_pos (by rw [q]; rfl)]
        exact ih ((x.1, f x.1) :: acc) fun y hy => h y (.tail _ hy)
      · rw [if_neg (by simpa using q)]
        unfold cloOf
        rw [if_neg (by simpa using q)]
        exact ih acc fun y hy => h y (.tail _ hy)
  exact this l [] h
theorem cloOf_look {f : Str → Addr} : ∀ (l : List (Str × NameKind)) (acc : List (Str × Addr)) (x : Str), ((x, NameKind.free) ∈ l ∨ acc.lookup x = some (f x)) → (cloOf f l acc).lookup x = some (f x)
  | [], acc, x, h => h.resolve_left (by intro q; cases q)
  | y :: r, acc, x, h => by
    unfold cloOf
    refine cloOf_look r _ x ?_
    rcases h with h | h
    · rcases List.mem_cons.mp h with e | h
      · subst e; exact .inr (by simp)
      · exact .inl h
    · refine .inr ?_
      split
      · rw [List.lookup_cons]
        by_cases q : x = y.1
        · subst q; simp
        · rw [beq_eq_false_iff_ne.mpr q]; exact h
      · exact h
def relS (scope sc : Scope) : Scope := { scope with names := scope.names.map fun (n, k) => if (k == .free && sc.kind == .function && sc.names.lookup n == some .cell) then (n, .cell) else (n, k) }
def tests (ifs : List Expr) (env : Env) : Sem Bool := forIn ifs true fun c r => if r = true then do let ok ← isTrue c env (eval c env); pure (ForInStep.yield ok) else pure (ForInStep.yield r)
theorem compLoopG {A : Around} {w : World} {elt target iter : Expr} {ifs : List Expr} {scope : Scope} {pos : Pos} {it acc : Value} {env : Env} {R : Result → Shared → Prop} {s : Shared} (I : Nat → Shared → Prop)
    (turn : ∀ n s, I n s → ∀ E, wpAny (model PR w) A (pyNext it) (fun r s₁ => match r with
      | none => R (.ok .next) s₁
      | some v => wpAny (model PR w) A (letOwnedTupleGo target it v) (fun _ s₁ => wpAny (model PR w) A (assign target env v) (fun _ s₂ =>
          wpAny (model PR w) A (tests ifs env) (fun ok s₃ =>
            if ok = true then wpAny (model PR w) A (eval elt env) (fun x s₄ =>
              wpAny (model PR w) A (call (.builtin "list.append") [acc, x]) (fun _ s₅ => ∃ m, m < n ∧ I m s₅) E s₄) E s₃
            else ∃ m, m < n ∧ I m s₃) E s₂) E s₁) E s₁) E s)
    (n : Nat) (h : I n s) : codeAny (model PR w) A (.compLoop (.ListComp elt [⟨target, iter, ifs, 0⟩] scope pos) 0 it acc env) R s := by
  refine codeAny_loop rfl I (fun n s hI => ?_) n h
  show wpAny _ A ((compTurn (.ListComp elt [⟨target, iter, ifs, 0⟩] scope pos) 0 it acc env).onRaise (fun x => do noteFrame x env; theTreesLotGoes x)) _ _ s
  refine wpAny_noted ?_
  rw [compTurn_list]
  refine wpAny_bind (wpAny_standAt (wpAny_bind (wpAny_mono (turn n s hI _) (fun r s₁ h₁ => ?_) fun _ _ h' => h')))
  cases r with
  | none => exact wpAny_pure h₁
  | some v =>
    refine wpAny_bind (wpAny_mono h₁ (fun _ s₂ h₂ => ?_) fun _ _ h' => h')
    refine wpAny_bind (wpAny_mono h₂ (fun _ s₂ h₂ => wpAny_bind (wpAny_mono h₂ (fun ok s₃ h₃ => ?_) fun _ _ h' => h')) fun _ _ h' => h')
    cases ok with
    | false => exact wpAny_pure ⟨rfl, h₃⟩
    | true => exact wpAny_bind (wpAny_bind (wpAny_mono h₃ (fun x s₄ h₄ => wpAny_bind (wpAny_mono h₄ (fun _ s₅ h₅ => wpAny_pure (wpAny_pure ⟨rfl, h₅⟩)) fun _ _ h' => h')) fun _ _ h' => h'))
abbrev noX : XPost := fun _ _ => False
def TS (c : Cx) (m : Loc) (g : View) (n : Led) (ifs : List Expr) (P : BPost) : Prop := DO c m g n (tests ifs c.env) P noX
theorem TS.nil {P : BPost} (h : P true g n) : TS c m g n [] P := fun s Q E S hQ _ => wpAny_tests_nil (hQ true g n s.heap s.toks h (Le.rfl' g) S)
theorem TS.one {t : Expr} {P : BPost} (h : TX c m g n t P noX) : TS c m g n [t] P := fun s Q E S hQ hE => wpAny_tests_one (h s Q E S hQ hE)
inductive CompK (c : Cx) (sc scope : Scope) (fns : List Str) (m0 : Loc) (target elt : Expr) (ifs : List Expr) (K : Addr → List Value → View → Led → Prop) (LI : Nat → Led) (len : Nat) (PI : Nat → Value → View → Prop) (J : View → Led → Prop) (g2 : View) (n2 : Led) : Prop
  | mk (I : Nat → List Value → View → Led → Prop) (hI0 : I 0 [] g2 n2) (hIJ : ∀ i ys g n, I i ys g n → J g n ∧ ys.length ≤ 1000000)
    (turn : ∀ (cc : Cx) D, cc.w = c.w → cc.h₀ = c.h₀ → cc.sc = relS scope sc → cc.k = c.k → cc.h0 = c.h0 → cc.comp = true → (∀ x ∈ fns, cc.cl.lookup x = c.cl.lookup x) →
      ∀ i ys u g0 g1 n1, Le g2 g0 → i < len → I i ys g0 n1 → Le g0 g1 → PI i u g1 →
        AG cc m0 g1 (LI (i + 1) ++ (D, LstO ys) :: n1) target u (fun m' => TS cc m' g1 (LI (i + 1) ++ (D, LstO ys) :: n1) ifs (fun ok g3 n3 =>
          (ok = true → EX cc m' g3 n3 elt (fun y g4 n4 => ∃ n5, n4 = LI (i + 1) ++ (D, LstO ys) :: n5 ∧ I (i + 1) (ys ++ [y]) g4 n5) noX) ∧
          (ok = false → ∃ n5, n3 = LI (i + 1) ++ (D, LstO ys) :: n5 ∧ I (i + 1) ys g3 n5))))
    (done : ∀ D ys g0 g1 n1, Le g2 g0 → I len ys g0 n1 → Le g0 g1 → c.h0.get? D = none → K D ys g1 n1) : CompK c sc scope fns m0 target elt ifs K LI len PI J g2 n2
theorem St.reset {h : Heap} {m' : Loc} (S : St c m g n h) (hn : ∀ p ∈ m', p.2 = none) (nd : (m'.map (·.1)).Nodup) (hl : ∀ x ∈ m'.map (·.1), c.sc.names.lookup x = some .local ∧ (x == ("__debug__" : Str)) = false) : St c m' g n h :=
  { S with
    loc := let ⟨mm, a, b⟩ := S.loc; ⟨mm, a, fun x v e => by have := hn _ e; cases this⟩
    mnd := nd
    mloc := hl }
theorem comp_core {elt target iter : Expr} {ifs : List Expr} {scope sc : Scope} {pos : Pos} {fns : List Str} {m0 : Loc} {K : Addr → List Value → View → Led → Prop} {v v' : Value} {RR : Value → Addr → Result → Shared → Prop} {s : Shared} {E : Value → Shared → Prop} {cl : List (Str × Addr)}
    (hdf : c.comp = false) (hsc : c.sc = sc) (hcell : ∀ y ∈ scope.names, y.2 ≠ .cell) (hkind : scope.kind = .function)
    (hm0 : ∀ p ∈ m0, p.2 = none) (hmnd : (m0.map (·.1)).Nodup) (hml : ∀ x ∈ m0.map (·.1), (relS scope sc).names.lookup x = some .local ∧ (x == ("__debug__" : Str)) = false) (hcl : ∀ x ∈ fns, cl.lookup x = c.cl.lookup x)
    (h : Iter c m g n target v (CompK c sc scope fns m0 target elt ifs K) Ψ) (hv : Is v v') (S : St c m g n s.heap)
    (hE : ∀ x g' n' h' tk, Ψ g' n' → Le g g' → St c m g' n' h' → Sig c g' n' x h' → E (.ref x) { s with heap := h', toks := tk })
    (hRR : ∀ D C h' tk ys g1 n1 o, K D ys g1 n1 → Le g g1 → St c m g1 ((D, LstO ys) :: n1) h' → (∃ mm, h'.Ns C mm) → h'.get? C = some o → g1 C = none → C ∉ addrs ((D, LstO ys) :: n1) → C ≠ c.L → C ∉ c.fs → c.h0.get? C = none → RR (.ref D) C (.ok .next) { s with heap := h', toks := tk }) :
    wpAny (model PR c.w) c.A (pyIter v') (fun it s₂ => wpAny (model PR c.w) c.A (newList []) (fun acc s₃ =>
      wpAny (model PR c.w) c.A (newFunctionEnv scope c.env.globals cl [] c.env.qual none .none (some c.env)) (fun cenv s₄ =>
        codeAny (model PR c.w) c.A (.compStart (.ListComp elt [⟨target, iter, ifs, 0⟩] scope pos) 0 it acc { cenv with scope := relabel scope c.env }) (RR acc cenv.locals) s₄) E s₃) E s₂) E s := by
  refine h v' hv s _ E S (fun it' g2 n2 h2 tk2 z le2 S2 => ?_) hE
  obtain ⟨it, LI, len, PI, J, n0, rfl, rfl, hSelf, hItr, I, hI0, hIJ, turn, done⟩ := z
  refine wpAny_newObj_type (s := { s with heap := h2, toks := tk2 }) (wpAny_newFunctionEnv hcell (by intro y hy; simp at hy) (fun h₁ hns₁ hsb₁ => ?_) hkind) (by size_fits)
  dsimp only at hns₁ hsb₁ ⊢
  have hfD := Heap.get?_fresh h2
  have S3 := S2.newOwn (P := LstO []) { cls := .type "list", dict := none, data := .seq ([] : List Value).toArray } ⟨_, _, rfl, .nil⟩
  generalize hH3 : h2.push { cls := .type "list", dict := none, data := .seq ([] : List Value).toArray } = h3 at S3 hns₁ hsb₁ ⊢
  generalize hD : h2.objs.size = D at S3 hfD ⊢
  have hfC := Heap.get?_fresh h3
  generalize hC : h3.objs.size = C at hfC hns₁ hsb₁ ⊢
  have keep1 : ∀ b o, h3.get? b = some o → h₁.get? b = some o := fun b o e => (hsb₁.2 b (fun q => by rw [q, hfC] at e; cases e)).trans (Heap.get?_push_of_some _ e)
  have S4 : St c m g2 ((D, LstO []) :: (LI 0 ++ n0)) h₁ := S3.grow keep1
  have hD0 : c.h0.get? D = none := S2.keep.old hfD
  have hC0 : c.h0.get? C = none := S3.keep.old hfC
  obtain ⟨mL, hL1, hL2⟩ := S4.loc
  let cc : Cx := { w := c.w, h₀ := c.h₀, nm := c.nm, sc := relS scope c.sc, L := C, fn := none, fa := c.fa, comp := true, cd := c.cd, cl := cl, A := c.A, outer := c.stk, k := c.k, g0 := c.g0, n0 := c.n0, h0 := c.h0, pin := (c.L, mL) :: c.pin }
  have hstk : c.stk = c.env :: c.outer := Cx.stk_def hdf
  have hfs : cc.fs = c.L :: c.fs := by
    show fsOf c.stk = _
    rw [hstk]
    show c.fa :: c.fs = _
    rw [S4.hdef hdf]
  have hCL : C ≠ c.L := S3.ne_L hfC
  have hCf : C ∉ c.fs := S3.notin_fs hfC
  have hCn := S3.notin_n hfC
  have hCg := S3.notin_g hfC
  have SC : St cc m0 g2 ((D, LstO []) :: (LI 0 ++ n0)) h₁ :=
    { S4 with
      hA := by rw [Cx.stk_comp (c := cc) rfl]; exact S4.hA
      hdef := fun q => by cases q
      hk := hkind
      loc := ⟨_, hns₁, fun x v e => by have := hm0 _ e; cases this⟩
      mnd := hmnd
      mloc := fun x hx => by rw [show cc.sc = relS scope sc from by show relS scope c.sc = _; rw [hsc]]; exact hml x hx
      Lg := hCg
      Ln := hCn
      fr := S4.frames
      fg := fun a ha => by
        rw [hfs] at ha
        rcases List.mem_cons.mp ha with rfl | ha
        · exact S4.Lg
        · exact S4.fg a ha
      fn := fun a ha => by
        rw [hfs] at ha
        rcases List.mem_cons.mp ha with rfl | ha
        · exact S4.Ln
        · exact S4.fn a ha
      keep := S4.keep.mono fun a ha => by rw [hfs]; exact .tail _ ha
      Lnew := hC0
      pins := fun p hp => by
        rcases List.mem_cons.mp hp with rfl | hp
        · exact ⟨hL1, by rw [hfs]; exact .head _, hCL.symm⟩
        · obtain ⟨a, b, d⟩ := S4.pins p hp
          exact ⟨a, by rw [hfs]; exact .tail _ b, fun (q : p.1 = C) => hCf (q ▸ b)⟩ }
  -- back
  have back : ∀ {m' : Loc} {g' n' h'}, St cc m' g' n' h' → St c m g' n' h' := fun {m' g' n' h'} X =>
    { S4 with
      base := X.base
      g0 := X.g0
      sits := X.sits
      loc := ⟨mL, (X.pins _ (.head _)).1, hL2⟩
      Lg := X.fg _ (by rw [hfs]; exact .head _)
      Ln := X.fn _ (by rw [hfs]; exact .head _)
      fr := by have := X.fr; rw [show cc.outer = c.env :: c.outer from hstk] at this; exact this.2.2
      fg := fun a ha => X.fg a (by rw [hfs]; exact .tail _ ha)
      fn := fun a ha => X.fn a (by rw [hfs]; exact .tail _ ha)
      keep := ⟨X.keep.1, fun b o e hb => by
        obtain ⟨k1, k2⟩ := X.keep.2 b o e hb
        refine ⟨fun hf => k1 (fun q => ?_), k2⟩
        rw [hfs] at q
        rcases List.mem_cons.mp q with q | q
        · have z := S4.Lnew
          rw [q] at e
          rw [show c.h0.get? c.L = some o from e] at z; cases z
        · exact hf q⟩
      new := X.new
      nnew := X.nnew
      pins := fun p hp => let ⟨a, b, d⟩ := S4.pins p hp; ⟨(X.pins p (.tail _ hp)).1, b, d⟩ }
  have henv : ({ (newEnv scope C c.env.globals cl c.env.qual none .none (some c.env) c.env.builtins) with scope := relabel scope c.env } : Env) = cc.env := rfl
  have loop : ∀ s₄ : Shared, s₄ = { s with heap := h₁, toks := tk2 + ([] : List (Str × Value)).length } →
      codeAny (model PR c.w) c.A (.compLoop (.ListComp elt [⟨target, iter, ifs, 0⟩] scope pos) 0 (.ref it) (.ref D) cc.env) (RR (.ref D) C) s₄ := by
    rintro s₄ rfl
    refine compLoopG (fun k s' => ∃ i ys mm g1 n1 h1 tk, s' = { s with heap := h1, toks := tk } ∧ Le g2 g1 ∧ St cc mm g1 (LI i ++ (D, LstO ys) :: n1) h1 ∧ I i ys g1 n1 ∧ i + k = len) ?_ len ⟨0, [], m0, g2, n0, h₁, _, rfl, Le.rfl' _, SC.perm (List.perm_middle.symm), hI0, Nat.zero_add _⟩
    rintro k s' ⟨i, ys, mm, g3, n1, h3, tk3, rfl, le3, S3, hI, hik⟩ E'
    have S3 := S3.reset hm0 hmnd (fun x hx => by rw [show cc.sc = relS scope sc from by show relS scope c.sc = _; rw [hsc]]; exact hml x hx)
    have T := hItr cc rfl i m0 g3 ((D, LstO ys) :: n1) n1 (by walk_at "M.om") (hIJ _ _ _ _ hI).1 (fun p hp => .tail _ hp) noX
    by_cases hlt : i < len
    · refine T.1 hlt { s with heap := h3, toks := tk3 } _ _ S3 (fun o g4 n4 h4 tk4 z le4 S4 => ?_) fun _ _ _ _ _ z => z.elim
      obtain ⟨u, u', rfl, hu, hP, z⟩ := z
      dsimp only
      refine z { s with heap := h4, toks := tk4 } _ _ S4 (fun _ g5 n5 h5 tk5 z le5 S5 => ?_) fun _ _ _ _ _ z => z.elim
      obtain ⟨rfl, rfl⟩ := z
      refine turn cc D rfl rfl (by show relS scope c.sc = _; rw [hsc]) rfl rfl rfl hcl i ys u g3 g5 n1 le3 hlt hI le4 hP u' hu { s with heap := h5, toks := tk5 } _ _ S5 fun m' h6 tk6 hK S6 => ?_
      refine hK { s with heap := h6, toks := tk6 } _ _ S6 (fun ok g7 n7 h7 tk7 z le7 S7 => ?_) fun _ _ _ _ _ z => z.elim
      cases ok with
      | false =>
        obtain ⟨n8, e8, zz⟩ := z.2 rfl
        subst e8
        exact ⟨k - 1, by walk_at "M.om", i + 1, ys, m', g7, n8, h7, tk7, rfl, (le3.trans le4).trans le7, S7, zz, by walk_at "M.om"⟩
      | true =>
        rw [if_pos rfl]
        refine z.1 rfl { s with heap := h7, toks := tk7 } _ _ S7 (fun y' g8 n8 h8 tk8 z le8 S8 => ?_) fun _ _ _ _ _ z => z.elim
        obtain ⟨y, hy, n9, rfl, z⟩ := z
        have hsz := (hIJ _ _ _ _ z).2
        rw [List.length_append] at hsz
        have ap : CA cc m' g8 (LI (i + 1) ++ (D, LstO ys) :: n9) (.builtin "list.append") [.ref D, y] (fun _ g' n' => g' = g8 ∧ n' = LI (i + 1) ++ (D, LstO (ys ++ [y])) :: n9) noX := CA.append (Swap.head.app _) (by walk_at "M.om") ⟨rfl, rfl⟩
        refine ap [.ref D, y'] (.cons rfl (.cons hy .nil)) { s with heap := h8, toks := tk8 } _ _ S8 (fun _ g' n' h9 tk9 z' le9 S9 => ?_) fun _ _ _ _ _ z => z.elim
        obtain ⟨_, _, rfl, rfl⟩ := z'
        exact ⟨k - 1, by walk_at "M.om", i + 1, _, m', g', n9, h9, tk9, rfl, ((le3.trans le4).trans le7).trans le8, S9, z, by walk_at "M.om"⟩
    · obtain rfl : i = len := by omega
      refine T.2 rfl { s with heap := h3, toks := tk3 } _ _ S3 (fun o g4 n4 h4 tk4 z le4 S4 => ?_) fun _ _ _ _ _ z => z.elim
      obtain ⟨rfl, rfl⟩ := z
      dsimp only
      obtain ⟨mC, ⟨oC, es, ep, hoC, hrC⟩, _⟩ := S4.loc
      exact hRR D C h4 tk4 ys g4 n1 oC (done D ys g3 g4 n1 le3 hI le4 hD0) (le2.trans (le3.trans le4)) (back S4) ⟨mC, oC, es, ep, hoC, hrC⟩ hoC S4.Lg S4.Ln hCL hCf hC0
  rw [henv]
  refine codeAny_compStart_list (loop _ rfl) (hSelf cc m0 g2 ((D, LstO []) :: n0) _ _ _ (SC.perm List.perm_middle.symm) (loop _ rfl))
theorem frees_ok {scope : Scope} {fns : List Str} (hf : (scope.names.all fun x => !(x.2 == .free) || fns.contains x.1) = true) (hc : ∀ x ∈ fns, ∃ a, c.cl.lookup x = some a) : closureFor scope c.env = pure (cloOf (fun x => (c.cl.lookup x).getD 0) scope.names []) :=
  closFor fun x hx e => by
    have := List.all_eq_true.mp hf x hx
    rw [e] at this
    simp only [beq_self_eq_true, Bool.not_true, Bool.false_or, List.contains_eq_mem, decide_eq_true_eq] at this
    obtain ⟨a, ha⟩ := hc _ this
    show c.cl.lookup x.1 = some ((c.cl.lookup x.1).getD 0)
    rw [ha]; rfl
theorem frees_look {scope : Scope} {fns : List Str} (hf : (fns.all fun x => scope.names.any fun y => y.1 == x && y.2 == .free) = true) (hc : ∀ x ∈ fns, ∃ a, c.cl.lookup x = some a) : ∀ x ∈ fns, (cloOf (fun x => (c.cl.lookup x).getD 0) scope.names []).lookup x = c.cl.lookup x := fun x hx => by
  have := List.all_eq_true.mp hf x hx
  obtain ⟨y, hy, e⟩ := List.any_eq_true.mp this
  simp only [Bool.and_eq_true, beq_iff_eq] at e
  obtain ⟨a, ha⟩ := hc x hx
  rw [cloOf_look scope.names [] x (.inl (by rw [← e.1, ← e.2]; exact hy))]
  show some ((c.cl.lookup x).getD 0) = _
  rw [ha]; rfl
abbrev kLO (Φ : Post) : Addr → List Value → View → Led → Prop := fun D ys g n => Φ (.ref D) g ((D, LstO ys) :: n)
abbrev kAsL (c : Cx) (m : Loc) (x : Str) (rest : List Stmt) (F : FPost) (Ψ : XPost) : Addr → List Value → View → Led → Prop := fun D ys g n => ∃ m', Put x (.ref D) m m' ∧ SX c m' g ((D, LstO ys) :: n) rest F Ψ
theorem EX.comp {elt target iter : Expr} {ifs : List Expr} {scope sc : Scope} {pos : Pos} (fns : List Str) (m0 : Loc)
    (h : EX c m g n iter (kIt c m target (CompK c sc scope fns m0 target elt ifs (kLO Φ)) Ψ) Ψ)
    (hc : ∀ x ∈ fns, ∃ a, c.cl.lookup x = some a) (hsc : c.sc = sc) (hdf : c.comp = false)
    (hf : (scope.names.all fun x => !(x.2 == .free) || fns.contains x.1) = true) (hf' : (fns.all fun x => scope.names.any fun y => y.1 == x && y.2 == .free) = true)
    (hcell : (scope.names.all fun x => !(x.2 == .cell)) = true) (hkind : scope.kind = .function) (hnames : (scope.names.all fun x => x.2 != .local || scope.names.lookup x.1 == some .local) = true)
    (hm0 : (m0.all fun p => p.2.isNone) = true) (hmnd : (m0.map (·.1)).Nodup) (hml : ((m0.map (·.1)).all fun x => (relS scope sc).names.lookup x == some .local && !(x == ("__debug__" : Str))) = true)
    (hs : ∀ x, foldedSetIterable iter c.env x = pure x := by intro _; rfl) : EX c m g n (.ListComp elt [⟨target, iter, ifs, 0⟩] scope pos) Φ Ψ := fun s Q E S hQ hE => by
  rw [eval_ListComp]
  refine wpAny_comprehension_free (use := none) rfl hs (frees_ok hf hc) hkind (fun x hx e => by have := List.all_eq_true.mp hnames x hx; rw [e] at this; simpa using this) ?_
  refine h s _ E S (fun v' g1 n1 h1 tk1 z le1 S1 => ?_) hE
  obtain ⟨v, hv, z⟩ := z
  refine comp_core (s := { s with heap := h1, toks := tk1 }) (RR := fun acc C => compPost (model PR c.w) c.A E none Q acc C) hdf hsc (fun y hy e => by have := List.all_eq_true.mp hcell y hy; rw [e] at this; exact absurd this (by decide)) hkind
    (fun p hp => by simpa using List.all_eq_true.mp hm0 p hp) hmnd (fun x hx => by have := List.all_eq_true.mp hml x hx; simpa using this) (frees_look hf' hc) z hv S1 (fun x g' n' h' tk z le => hE x g' n' h' tk z (le1.trans le)) ?_
  intro D C h' tk ys g2 n2 o k le S' hns ho c1 c2 c3 c4 c5
  obtain ⟨mm, hns⟩ := hns
  exact ⟨mm, hns, fun h'' hs => hQ (.ref D) g2 _ h'' tk ⟨_, Is.rfl' _, k⟩ (le1.trans le) (S'.lost ho c1 c2 c3 c4 c5 hs.extBut)⟩
theorem SX.asgComp {elt target iter : Expr} {ifs : List Expr} {scope sc : Scope} {pos px spos : Pos} {x : Str} {rest : List Stmt} (fns : List Str) (m0 : Loc)
    (h : EX c m g n iter (kIt c m target (CompK c sc scope fns m0 target elt ifs (kAsL c m x rest F Ψ)) Ψ) Ψ)
    (hc : ∀ x ∈ fns, ∃ a, c.cl.lookup x = some a) (hsc : c.sc = sc) (hdf : c.comp = false)
    (hf : (scope.names.all fun x => !(x.2 == .free) || fns.contains x.1) = true) (hf' : (fns.all fun x => scope.names.any fun y => y.1 == x && y.2 == .free) = true)
    (hcell : (scope.names.all fun x => !(x.2 == .cell)) = true) (hkind : scope.kind = .function) (hnames : (scope.names.all fun x => x.2 != .local || scope.names.lookup x.1 == some .local) = true)
    (hm0 : (m0.all fun p => p.2.isNone) = true) (hmnd : (m0.map (·.1)).Nodup) (hml : ((m0.map (·.1)).all fun x => (relS scope sc).names.lookup x == some .local && !(x == ("__debug__" : Str))) = true)
    (hsw : swapsWith (.ListComp elt [⟨target, iter, ifs, 0⟩] scope pos) (some (.Name x px)) spos.line c.env = pure true)
    (hs : ∀ x, foldedSetIterable iter c.env x = pure x := by intro _; rfl) : SX c m g n (.Assign [.Name x px] (.ListComp elt [⟨target, iter, ifs, 0⟩] scope pos) spos :: rest) F Ψ := SX.cons fun s Q E S hQ hE => by
  rw [exec_Assign_Name_used _ _ _ _ hsw]
  refine wpAny_bind (wpAny_standAt (wpAny_bind ?_))
  show wpAny _ _ (do let _ ← comprehension (.ListComp elt [⟨target, iter, ifs, 0⟩] scope pos) scope c.env _ (newList []) false (eval iter c.env) (some (PySem.assign (.Name x px) c.env))) _ _ s
  refine wpAny_bind (wpAny_mono (wpAny_comprehension_free (use := some (PySem.assign (.Name x px) c.env)) (Q := fun _ s' => Q .next s') rfl hs (frees_ok hf hc) hkind (fun x hx e => by have := List.all_eq_true.mp hnames x hx; rw [e] at this; simpa using this) ?_) (fun _ s' hq => wpAny_pure (wpAny_pure hq)) fun _ _ e => e)
  refine h s _ E S (fun v' g1 n1 h1 tk1 z le1 S1 => ?_) fun x g' n' h' tk z le S' X => hE x m g' n' h' tk z le S' X
  obtain ⟨v, hv, z⟩ := z
  refine comp_core (s := { s with heap := h1, toks := tk1 }) (RR := fun acc C => compPost (model PR c.w) c.A E (some (PySem.assign (.Name x px) c.env)) (fun _ s' => Q .next s') acc C) hdf hsc (fun y hy e => by have := List.all_eq_true.mp hcell y hy; rw [e] at this; exact absurd this (by decide)) hkind
    (fun p hp => by simpa using List.all_eq_true.mp hm0 p hp) hmnd (fun x hx => by have := List.all_eq_true.mp hml x hx; simpa using this) (frees_look hf' hc) z hv S1 (fun x g' n' h' tk z le S' X => hE x m g' n' h' tk z (le1.trans le) S' X) ?_
  intro D C h' tk ys g2 n2 o k le S' hns ho c1 c2 c3 c4 c5
  obtain ⟨m', P, k⟩ := k
  have S0 := S'.claim (P := fun o => ∃ (mm : Str → Option Value) (es : Array DictEntry) (ep : Nat), o.data = .dict es ep ∧ StrKeys es ∧ ∀ name, nsFind es name = mm name) c1 c2 c3 c4 c5 (o := o) ho (by obtain ⟨mm, o', es, ep, e, r⟩ := hns; rw [ho] at e; cases e; exact ⟨mm, es, ep, r⟩)
  show wpAny _ _ (PySem.assign (.Name x px) c.env (.ref D)) _ _ _
  refine wpAny_assign_Name (store_sig (s := { s with heap := h', toks := tk }) S0 P (Is.rfl' _) fun h'' tk' S'' => ?_)
  obtain ⟨o2, ho2, mm, es, ep, r⟩ := S''.sits.ld _ (.head _)
  exact ⟨mm, ⟨o2, es, ep, ho2, r⟩, fun h3 hs3 => hQ .next .next m' g2 _ h3 tk' k .next (le1.trans le) (S''.lose c5 hs3.extBut)⟩
end Mine

namespace Mine
variable {c : Cx} {m : Loc} {g : View} {n : Led} {Φ : Post} {Ψ : XPost} {F : FPost}
theorem EX.compR2 {elt target iter : Expr} {ifs : List Expr} {scope : Scope} {pos : Pos} (fns : List Str) (h : EX c m g n iter (fun _ _ _ => False) Ψ) (hc : ∀ x ∈ fns, ∃ a, c.cl.lookup x = some a)
    (hf : (scope.names.all fun x => !(x.2 == .free) || fns.contains x.1) = true) (hkind : scope.kind = .function) (hnames : (scope.names.all fun x => x.2 != .local || scope.names.lookup x.1 == some .local) = true)
    (hs : ∀ x, foldedSetIterable iter c.env x = pure x := by intro _; rfl) : EX c m g n (.ListComp elt [⟨target, iter, ifs, 0⟩] scope pos) Φ Ψ := fun s Q E S hQ hE => by
  rw [eval_ListComp]
  refine wpAny_comprehension_free (use := none) rfl hs (frees_ok hf hc) hkind (fun x hx e => by have := List.all_eq_true.mp hnames x hx; rw [e] at this; simpa using this) ?_
  exact h s _ E S (fun v' g1 n1 h1 tk1 z le1 S1 => let ⟨_, _, k⟩ := z; k.elim) hE
theorem SX.asgCompR {elt target iter : Expr} {ifs : List Expr} {scope : Scope} {pos px spos : Pos} {x : Str} {rest : List Stmt} (fns : List Str) (h : EX c m g n iter (fun _ _ _ => False) Ψ) (hc : ∀ x ∈ fns, ∃ a, c.cl.lookup x = some a)
    (hf : (scope.names.all fun x => !(x.2 == .free) || fns.contains x.1) = true) (hkind : scope.kind = .function) (hnames : (scope.names.all fun x => x.2 != .local || scope.names.lookup x.1 == some .local) = true)
    (hsw : swapsWith (.ListComp elt [⟨target, iter, ifs, 0⟩] scope pos) (some (.Name x px)) spos.line c.env = pure true)
    (hs : ∀ x, foldedSetIterable iter c.env x = pure x := by intro _; rfl) : SX c m g n (.Assign [.Name x px] (.ListComp elt [⟨target, iter, ifs, 0⟩] scope pos) spos :: rest) F Ψ := SX.cons fun s Q E S hQ hE => by
  rw [exec_Assign_Name_used _ _ _ _ hsw]
  refine wpAny_bind (wpAny_standAt (wpAny_bind ?_))
  show wpAny _ _ (do let _ ← comprehension (.ListComp elt [⟨target, iter, ifs, 0⟩] scope pos) scope c.env _ (newList []) false (eval iter c.env) (some (PySem.assign (.Name x px) c.env))) _ _ s
  refine wpAny_bind (wpAny_mono (wpAny_comprehension_free (use := some (PySem.assign (.Name x px) c.env)) (Q := fun _ _ => False) rfl hs (frees_ok hf hc) hkind (fun x hx e => by have := List.all_eq_true.mp hnames x hx; rw [e] at this; simpa using this) ?_) (fun _ _ hq => hq.elim) fun _ _ e => e)
  exact h s _ E S (fun v' g1 n1 h1 tk1 z le1 S1 => let ⟨_, _, k⟩ := z; k.elim) fun x g' n' h' tk z le S' X => hE x m g' n' h' tk z le S' X
theorem swap_of {c : Cx} {sc : Scope} {e : Expr} {x : Option Expr} {l : Nat} {b : Bool} (h : c.sc = sc) (k : ∀ L f fa cd cl nm, swapsWith e x l { scope := sc, locals := L, globals := mainGlobals, cells := cl, qual := nm ++ ".<locals>.", func := f, code := cd, frame := some fa, builtins := builtinsNs } = pure b) : swapsWith e x l c.env = pure b := by
  subst h; exact k _ _ _ _ _ _
theorem EX.callT {x : Str} {np pos : Pos} {e : Expr} {es : List Expr} {T : String} (hx : c.sc.names.lookup x = some .globalImplicit) (hg : nsIn (KK c.w) mainGlobals x = some none) (hb : bootBuiltins x = some (.type T)) (hn : x ≠ "__name__") (hd : (x == ("__debug__" : Str)) = false)
    (h : AX c m g n pos (e :: es) (kCA c m (.type T) Φ Ψ) Ψ)
    (he : starEach (e :: es) c.env = (false, eval e c.env) :: starEach es c.env := by rfl) (hplain : (backTo pos (starEach es c.env)).any (·.1) = false := by rfl)
    (hc : eval (.Call (.Name x np) (e :: es) [] pos) c.env = (do callWith pos (← eval (.Name x np) c.env) [] (backTo pos (starEach (e :: es) c.env)) (backToKw pos (keywordEach [] c.env))) := by rfl) :
    EX c m g n (.Call (.Name x np) (e :: es) [] pos) Φ Ψ := fun s Q E S hQ hE => by
  refine Call_ ?_ hc
  refine S.G.elim fun p loose mean mg mb T => ?_
  refine Name_function_global (env := c.env) S.hk hx (loadGlobal_builtin (env := c.env) (T.g.keeps S.stays) (mg_none_of S.G.K T.g hg) (T.b.keeps S.stays) ((T.builtins x hn).trans hb) ?_) hd
  refine callWith_type1 ?_ he hplain
  refine h s _ E S (fun vs' g1 n1 h1 tk z le S1 => ?_) hE
  obtain ⟨vs, hv, k⟩ := z
  exact k vs' hv { s with heap := h1, toks := tk } Q E S1 (fun a' g' n' h' tk' z le' S' => hQ a' g' n' h' tk' z (le.trans le') S') fun x g' n' h' tk' z le' S' Sg => hE x g' n' h' tk' z (le.trans le') S' Sg
end Mine
local macro_rules | `(tactic| walk_at "M.call") => `(tactic| ((with_reducible refine (?_ : Mine.EX _ _ _ _ (Expr.Call (Expr.Name "range" _) (_ :: _) [] _) _ _)); refine' Mine.EX.callT ?hx ?hg ?hb ?hn ?hd ?_; (case hx => walk_at "M.lk"); (case hg => walk_at "M.is"); (case hb => boot_fast); (case hn => decide +kernel); (case hd => decide +kernel)))
local macro_rules | `(tactic| walk_at "M.cv") => `(tactic| first | assumption | exact Mine.CellV.leR (by assumption) (by walk_at "M.cv"))
local macro_rules | `(tactic| walk_at "M.name") => `(tactic| first
  | (refine Mine.EX.cellV (by walk_at "M.lk") (by walk_at "M.cv") (by decide +kernel) ?_)
  | (refine Mine.EX.cellL (by walk_at "M.lk") (by assumption) (by walk_at "M.mem") (by decide +kernel) ?_))
local macro_rules | `(tactic| walk_at "M.entc") => `(tactic| (
  (case ho => walk_at "M.is"); (case hcd => walk_at "M.is")
  (case hb => (intro vs h; first | exact Mine.AllIs.e1 h fun _ => rfl | exact Mine.AllIs.e2 h fun _ _ => rfl | exact Mine.AllIs.e3 h fun _ _ _ => rfl | exact Mine.AllIs.e4 h fun _ _ _ _ => rfl | exact Mine.AllIs.e0 h rfl))
  (case hl => rfl); (case hlps => kernel_rfl); (case hn => kernel_rfl); (case hps => kernel_rfl); (case hrest => kernel_rfl); (case hnd => decide +kernel); (case hcn => decide +kernel); (case hcn' => kernel_rfl); (case hco => rfl); (case hg => rfl); (case hk => rfl)))
local macro_rules | `(tactic| walk_at "M.ds") => `(tactic| dsimp only [List.zip, List.zipWith, List.map, List.append, HAppend.hAppend, Append.append])
namespace Mine
variable {c : Cx} {m : Loc} {g : View} {n : Led} {Φ : Post} {Ψ : XPost} {F : FPost}
theorem CellV.ex {x : Str} {v : Value} (h : CellV c g x v) : ∃ a, c.cl.lookup x = some a := let ⟨a, _, _, h, _⟩ := h; ⟨a, h⟩
theorem one_ex {x : Str} (h : ∃ a, c.cl.lookup x = some a) : ∀ y ∈ [x], ∃ a, c.cl.lookup y = some a := fun y hy => by rw [List.mem_singleton.mp hy]; exact h
section
variable {w : World} {h₀ : Heap} {P : Nat → Addr} {T : Nat → Value} {a q : Nat} {x : Value} {l : Addr} {k : Int} {tk : Tok}
theorem remq_ring (hR : Ring g P T a q) (hL : Lst g l [.int k tk, .ref (P 0)]) : FR w h₀ (.ref 474) [x, .ref l] g 6 := by
  refine FR.of ?_
  refine' FN.ofC (ps := ["world", "args"]) (rest := []) (lps := [(("world" : Str), x)]) [] ?ho ?hcd ?hb ?hl ?hlps ?hn ?hps ?hrest ?hnd ?hcn ?hcn' ?hco ?hg ?hk ?h
  walk_at "M.entc"
  intro c g1 ca hw hh hsc hk hn0 hcomp hcd hnm G hle hcells hcn
  subst hw hh
  walk_at "M.ds"
  have hargs := hcells "args" _ (.tail _ (.head _)) (by kernel_rfl)
  walk_at "M.go"
  refine EX.compR2 ["args"] ?_ (one_ex hargs.ex) (by kernel_rfl) rfl (by kernel_rfl)
  walk_at "M.go"
theorem remove_ring (hR : Ring g P T a q) (hL : Lst g l [.int k tk, .ref (P 0)]) : FR w h₀ (.ref 627) [x, .ref l] g 6 := by
  refine FR.of ?_
  refine' FN.ofC (ps := ["world", "args"]) (rest := []) (lps := [(("world" : Str), x)]) [] ?ho ?hcd ?hb ?hl ?hlps ?hn ?hps ?hrest ?hnd ?hcn ?hcn' ?hco ?hg ?hk ?h
  walk_at "M.entc"
  intro c g1 ca hw hh hsc hk hn0 hcomp hcd hnm G hle hcells hcn
  subst hw hh
  walk_at "M.ds"
  have hargs := hcells "args" _ (.tail _ (.head _)) (by kernel_rfl)
  walk_at "M.go"
  refine EX.compR2 ["args"] ?_ (one_ex hargs.ex) (by kernel_rfl) rfl (by kernel_rfl)
  walk_at "M.go"
theorem delete_ring (hR : Ring g P T a q) (hL : Lst g l [.int k tk, .ref (P 0)]) : FR w h₀ (.ref 622) [x, .ref l] g 6 := by
  refine FR.of ?_
  refine' FN.ofC (ps := ["world", "args"]) (rest := ["kept", "first", "here"]) (lps := [(("world" : Str), x)]) [] ?ho ?hcd ?hb ?hl ?hlps ?hn ?hps ?hrest ?hnd ?hcn ?hcn' ?hco ?hg ?hk ?h
  walk_at "M.entc"
  intro c g1 ca hw hh hsc hk hn0 hcomp hcd hnm G hle hcells hcn
  subst hw hh
  walk_at "M.ds"
  have hargs := hcells "args" _ (.tail _ (.head _)) (by kernel_rfl)
  walk_at "M.go"
theorem copy_alist_ring (hR : Ring g P T a q) (hL : Lst g l [.ref (P 0)]) : FR w h₀ (.ref 514) [x, .ref l] g 6 := by
  refine FR.of ?_
  refine' FN.of (ps := ["world", "args"]) (rest := ["found"]) (ds := []) ?ho ?hcd ?hb ?hl ?hn ?hnd ?hc ?hco ?hg ?hk ?h
  walk_at "M.def"
  refine SX.asgCompR [] ?_ (fun _ h => nomatch h) (by kernel_rfl) rfl (by kernel_rfl) (swap_of (by assumption) (fun _ _ _ _ _ _ => by kernel_rfl))
  walk_at "M.go"
end
end Mine

namespace Mine
variable {c : Cx} {m : Loc} {g : View} {n : Led} {Φ : Post} {Ψ : XPost} {F : FPost}
section
variable {w : World} {h₀ : Heap} {P : Nat → Addr} {T : Nat → Value} {a q : Nat} {x : Value} {l : Addr} {k : Int} {tk : Tok}
theorem last_ring1 (hR : Ring g P T a q) (hL : Lst g l [.ref (P 0)]) : FR w h₀ (.ref 399) [x, .ref l] g 6 := by
  refine FR.of ?_
  refine' FN.of (ps := ["world", "args"]) (rest := ["many", "things", "tail"]) (ds := []) ?ho ?hcd ?hb ?hl ?hn ?hnd ?hc ?hco ?hg ?hk ?h
  walk_at "M.def"
  walk_at "M.go"
  refine ⟨fun h => absurd h (by simp), fun _ => ?_⟩
  walk_at "M.go"
  refine CA.fn (split_ring_fn (by walk_at "M.ring")) (by walk_at "M.om") (fun v g' n' le fr z => ?_) (fun _ _ _ z => z.elim)
  obtain ⟨t, l', us, rfl, rfl, hT, hM⟩ := z
  dsimp only [HAppend.hAppend, Append.append, List.append]
  walk_at "M.go"
  walk_at "M.raise"
theorem last_ring2 (hR : Ring g P T a q) (hL : Lst g l [.ref (P 0), .int k tk]) : FR w h₀ (.ref 399) [x, .ref l] g 6 := by
  refine FR.of ?_
  refine' FN.of (ps := ["world", "args"]) (rest := ["many", "things", "tail"]) (ds := []) ?ho ?hcd ?hb ?hl ?hn ?hnd ?hc ?hco ?hg ?hk ?h
  walk_at "M.def"
  walk_at "M.go"
  refine ⟨fun _ => ?_, fun h => absurd h (by simp)⟩
  walk_at "M.go"
  refine CA.fn (split_ring_fn (by walk_at "M.ring")) (by walk_at "M.om") (fun v g' n' le fr z => ?_) (fun _ _ _ z => z.elim)
  obtain ⟨t, l', us, rfl, rfl, hT, hM⟩ := z
  dsimp only [HAppend.hAppend, Append.append, List.append]
  walk_at "M.go"
  walk_at "M.raise"
theorem butlast_ring1 (hR : Ring g P T a q) (hL : Lst g l [.ref (P 0)]) : FR w h₀ (.ref 406) [x, .ref l] g 6 := by
  refine FR.of ?_
  refine' FN.of (ps := ["world", "args"]) (rest := ["many", "things"]) (ds := []) ?ho ?hcd ?hb ?hl ?hn ?hnd ?hc ?hco ?hg ?hk ?h
  walk_at "M.def"
  walk_at "M.go"
  refine ⟨fun h => absurd h (by simp), fun _ => ?_⟩
  walk_at "M.go"
  refine ⟨fun h => absurd h (by simp), fun _ => ?_⟩
  walk_at "M.go"
theorem butlast_ring2 (hR : Ring g P T a q) (hL : Lst g l [.ref (P 0), .int k tk]) (h0 : 0 < k) : FR w h₀ (.ref 406) [x, .ref l] g 6 := by
  refine FR.of ?_
  refine' FN.of (ps := ["world", "args"]) (rest := ["many", "things"]) (ds := []) ?ho ?hcd ?hb ?hl ?hn ?hnd ?hc ?hco ?hg ?hk ?h
  walk_at "M.def"
  walk_at "M.go"
  refine ⟨fun _ => ?_, fun h => absurd h (by simp)⟩
  walk_at "M.go"
  refine ⟨fun h => absurd (of_decide_eq_true h) (by walk_at "M.om"), fun _ => ?_⟩
  walk_at "M.go"
theorem butlast_zero (hR : Ring g P T a q) (hL : Lst g l [.ref (P 0), .int 0 tk]) : FT w h₀ (.ref 406) [x, .ref l] g 6 (fun v _ => v = .ref (P 0)) := by
  refine' FN.of (ps := ["world", "args"]) (rest := ["many", "things"]) (ds := []) ?ho ?hcd ?hb ?hl ?hn ?hnd ?hc ?hco ?hg ?hk ?h
  walk_at "M.def"
  walk_at "M.go"
  refine ⟨fun _ => ?_, fun h => absurd h (by simp)⟩
  walk_at "M.go"
  refine ⟨fun _ => ?_, fun h => absurd h (by simp)⟩
  walk_at "M.go"
  exact ⟨rfl, rfl⟩
end
end Mine

namespace Mine
variable {c : Cx} {m : Loc} {g : View} {n : Led} {Φ : Post} {Ψ : XPost} {F : FPost}
theorem SX.perm {st : List Stmt} {n' : Led} (p : n.Perm n') (h : SX c m g n' st F Ψ) : SX c m g n st F Ψ := fun s Q E S hQ hE => h s Q E (S.perm p) hQ hE
theorem DO.perm {α : Type} {t : Sem α} {P : α → View → Led → Prop} {n' : Led} (p : n.Perm n') (h : DO c m g n' t P Ψ) : DO c m g n t P Ψ := fun s Q E S hQ hE => h s Q E (S.perm p) hQ hE
theorem SX.freeze {st : List Stmt} {a : Addr} {P : Obj → Prop} (h0 : c.h0.get? a = none) (h : ∀ o, P o → Le g (gset g a o) → SX c m (gset g a o) n st F Ψ) : SX c m g ((a, P) :: n) st F Ψ := fun s Q E S hQ hE => by
  obtain ⟨o, hP, le, S'⟩ := S.freeze h0
  exact h o hP le s Q E S' (fun f f' m' g' n' h' tk z hf le' => hQ f f' m' g' n' h' tk z hf (le.trans le')) fun x m' g' n' h' tk z le' => hE x m' g' n' h' tk z (le.trans le')
theorem DO.freeze {α : Type} {t : Sem α} {Q' : α → View → Led → Prop} {a : Addr} {P : Obj → Prop} (h0 : c.h0.get? a = none) (h : ∀ o, P o → Le g (gset g a o) → DO c m (gset g a o) n t Q' Ψ) : DO c m g ((a, P) :: n) t Q' Ψ := fun s Q E S hQ hE => by
  obtain ⟨o, hP, le, S'⟩ := S.freeze h0
  exact h o hP le s Q E S' (fun a g' n' h' tk z le' => hQ a g' n' h' tk z (le.trans le')) fun x g' n' h' tk z le' => hE x g' n' h' tk z (le.trans le')
theorem SX.frzL {st : List Stmt} {a : Addr} {us : List Value} (h0 : c.h0.get? a = none) (h : ∀ g2, Le g g2 → Lst g2 a us → SX c m g2 n st F Ψ) : SX c m g ((a, LstO us) :: n) st F Ψ :=
  SX.freeze h0 fun o hP le => h _ le ⟨o, gset_self, hP⟩
theorem SX.frzC {st : List Stmt} {x d : Addr} {u v : Value} (h0 : c.h0.get? d = none) (hx : g x = some (instObj CONS d)) (h : ∀ g2, Le g g2 → Cel g2 x u v → SX c m g2 n st F Ψ) : SX c m g ((d, DicM (celF u v)) :: n) st F Ψ :=
  SX.freeze h0 fun o hP le => h _ le ⟨d, o, le _ _ hx, gset_self, hP⟩
theorem SX.lift {st : List Stmt} {g' : View} (le : Le g g') (h : SX c m g' n st F Ψ) (S' : ∀ h, St c m g n h → St c m g' n h) : SX c m g n st F Ψ := fun s Q E S hQ hE =>
  h s Q E (S' _ S) (fun f f' m' g' n' h' tk z hf le' => hQ f f' m' g' n' h' tk z hf (le.trans le')) fun x m' g' n' h' tk z le' => hE x m' g' n' h' tk z (le.trans le')
def frz (g : View) : List (Addr × Obj) → View
  | [] => g
  | (a, o) :: r => frz (gset g a o) r
theorem Ends.freeze {outer : List Env} {n : Led} {h : Heap} {g' : View} {h' : Heap} (hf : ∀ a ∈ fsOf outer, (∃ o, h.get? a = some o) ∧ a ∉ addrs n) : ∀ {n' : Led} {g' : View}, Ends outer g n h g' n' h' → (∀ a ∈ addrs n', h.get? a = none) →
    ∃ g'', Le g' g'' ∧ Ends outer g n h g'' [] h' ∧ (∀ a, a ∉ addrs n' → g'' a = g' a) ∧ ∀ p ∈ n', ∃ o, g'' p.1 = some o ∧ p.2 o
  | [], g', E, _ => ⟨g', Le.rfl' _, E, fun _ _ => rfl, fun _ h => nomatch h⟩
  | (a, P) :: r, g', E, hn => by
    obtain ⟨o, ho, hP⟩ := E.sits.ld (a, P) (.head _)
    have hg : g' a = none := E.sits.off a (.head _)
    have nd := List.nodup_cons.mp E.sits.nd
    have E' : Ends outer g n h (gset g' a o) r h' :=
      { le := E.le.trans (Le.gset hg)
        sits := ⟨fun b o' e => by
            by_cases q : b = a
            · subst q; rw [gset_self] at e; cases e; exact ho
            · rw [gset_ne q] at e; exact E.sits.vw b o' e, fun p hp => E.sits.ld p (.tail _ hp), fun b hb => by
            rw [gset_ne (ne_of_in hb nd.1)]; exact E.sits.off b (.tail _ hb), nd.2⟩
        keep := E.keep
        new := fun b o' e => by
          by_cases q : b = a
          · subst q; exact .inr (hn _ (.head _))
          · rw [gset_ne q] at e; exact E.new b o' e
        nnew := fun b hb => E.nnew b (.tail _ hb) }
    obtain ⟨g'', le, E'', hoff, hall⟩ := Ends.freeze (g' := gset g' a o) hf E' fun b hb => hn b (.tail _ hb)
    refine ⟨g'', (Le.gset hg).trans le, E'', fun b hb => ?_, fun p hp => ?_⟩
    · have hb := List.not_mem_cons_of_ne_of_not_mem (a := b) (fun q => hb (by rw [q]; exact .head _)) (fun q => hb (.tail _ q))
      rw [hoff b (fun q => hb (.tail _ q)), gset_ne (fun q => hb (by rw [q]; exact .head _))]
    · rcases List.mem_cons.mp hp with rfl | hp
      · exact ⟨o, le _ _ gset_self, hP⟩
      · exact hall p hp
theorem FN.frz {w : World} {h₀ : Heap} {f : Value} {args : List Value} {k : Nat} {P : Value → View → Prop} {Φ' : Post} (F : FN w h₀ f args g [] k Φ' (fun _ _ => False)) (hP : ∀ v g' n' g'', Φ' v g' n' → Le g g' → Le g' g'' → (∀ p ∈ n', ∃ o, g'' p.1 = some o ∧ p.2 o) → P v g'') : FT w h₀ f args g k P := by
  intro A outer s R vs G hb hh hA hr hs hf hd hv hQ hE
  refine F A outer s R vs G hb hh hA hr hs hf hd hv (fun v v' g' n' h' tk z hv' e => ?_) fun x g' n' h' tk z => z.elim
  have hn : ∀ a ∈ addrs n', s.heap.get? a = none := fun a ha => (e.nnew a ha).resolve_left (fun q => nomatch q)
  obtain ⟨g'', le, e', _, hall⟩ := e.freeze (g' := g') (h' := h') (fun a ha => ⟨let ⟨_, o, q, _⟩ := hf.mem ha; ⟨o, q⟩, (hd a ha).2⟩) hn
  exact hQ v v' g'' [] h' tk ⟨rfl, hP v g' n' g'' z e.le le hall⟩ hv' e'
structure Chn (g : View) (P : Nat → Addr) (T : Nat → Value) (k : Nat) : Prop where
  cel : ∀ i, i < k → Cel g (P i) (T i) (.ref (P (i + 1)))
theorem Chn.le {g g' : View} {P T k} (h : Chn g P T k) (l : Le g g') : Chn g' P T k := ⟨fun i hi => (h.cel i hi).le l⟩
structure Opn (g0 g : View) (P : Nat → Addr) (T : Nat → Value) (k : Nat) (d : Addr) : Prop where
  chn : Chn g P T (k - 1)
  lst : g (P (k - 1)) = some (instObj CONS d)
  new : ∀ i, i < k → g0 (P i) = none
  inj : ∀ i j, i < k → j < k → P i = P j → i = j
theorem pylong1 (x : Int) : Builtin.divisionGoesByPylong x (-1) = false := by kernel_rfl
theorem fitsL (i : Int) (h1 : -(2 ^ 63) ≤ i) (h2 : i < 2 ^ 63) : Builtin.Range.rangeFitsLong i = true := by
  unfold Builtin.Range.rangeFitsLong; simp only [Bool.and_eq_true, decide_eq_true_eq]; exact ⟨h1, h2⟩
theorem range_down {k : Nat} : Builtin.Range.rangeSize ((k : Int) - 1) (-1) (-1) = (k : Int) := by
  unfold Builtin.Range.rangeSize
  rw [if_neg (by decide), show (-(-1) : Int) = 1 from rfl, Int.ediv_one]
  split <;> omega
theorem small_down {k : Nat} (h : k ≤ 1000000) : Builtin.Range.small ((k : Int) - 1) (-1) (-1) = true := by
  unfold Builtin.Range.small
  rw [range_down, if_neg (by decide), fitsL _ (by walk_at "M.om") (by walk_at "M.om"), fitsL _ (by walk_at "M.om") (by walk_at "M.om"), fitsL _ (by walk_at "M.om") (by walk_at "M.om")]
  simp
  right; exact fitsL _ (by walk_at "M.om") (by walk_at "M.om")
theorem range_up {k : Nat} : Builtin.Range.rangeSize 0 (k : Int) 1 = (k : Int) := by
  unfold Builtin.Range.rangeSize
  rw [if_pos (by decide)]
  split <;> omega
theorem small_up {k : Nat} (h : k ≤ 1000000) : Builtin.Range.small 0 (k : Int) 1 = true := by
  unfold Builtin.Range.small
  rw [range_up, if_pos (by decide), fitsL _ (by walk_at "M.om") (by walk_at "M.om"), fitsL _ (by walk_at "M.om") (by walk_at "M.om"), fitsL _ (by walk_at "M.om") (by walk_at "M.om")]
  simp
  right; exact fitsL _ (by walk_at "M.om") (by walk_at "M.om")
end Mine
local macro_rules | `(tactic| walk_at "M.x2") => `(tactic| ((with_reducible refine (?_ : Mine.SX _ _ _ _ (Stmt.For _ _ _ [] _ :: _) _ _)); refine Mine.SX.forG ?_))
local macro_rules | `(tactic| walk_at "M.ca") => `(tactic| first
  | ((with_reducible refine (?_ : Mine.CA _ _ _ _ (Value.type "range") [Value.int _ _] _ _)); refine Mine.CA.range1 ?_; intro _ _ _ _)
  | ((with_reducible refine (?_ : Mine.CA _ _ _ _ (Value.type "range") [Value.int _ _, Value.int (-1) _, Value.int (-1) _] _ _)); refine Mine.CA.range3 (by decide) (Mine.pylong1 _) ?_; intro _ _ _ _))
namespace Mine
variable {c : Cx} {m : Loc} {g : View} {n : Led} {Φ : Post} {Ψ : XPost} {F : FPost}
theorem lo4 {k i : Nat} : k - (i + 1) = k - 1 - i := by rw [Nat.sub_sub, Nat.add_comm]
theorem lo3 {k i : Nat} (hi : i < k) : k - 1 - i + 1 = k - i := by rw [Nat.sub_right_comm]; exact Nat.sub_add_cancel (Nat.sub_pos_of_lt hi)
theorem lo1 {k i j : Nat} (hi : i < k) (h : k - (i + 1) ≤ j) (q : ¬ j = k - 1 - i) : k - i ≤ j := Nat.le_trans (Nat.le_of_eq (lo3 hi).symm) (Nat.lt_of_le_of_ne (Nat.le_trans (Nat.le_of_eq lo4.symm) h) fun e => q e.symm)
theorem lo2 {k i j : Nat} (h : k - (i + 1) ≤ j) (q : ¬ j = k - 1 - i) : ¬ j + 1 = k - 1 - i := fun e => Nat.lt_irrefl j (Nat.lt_of_lt_of_le (Nat.lt_of_lt_of_eq (Nat.lt_succ_self j) e) (Nat.le_trans (Nat.le_of_eq lo4.symm) h))
theorem lo5 {k i : Nat} (hi : i < k) : ((k : Int) - 1 + i * -1).toNat = k - 1 - i := by lia
theorem lo6 {k i : Nat} (hi : i < k) (h0 : 0 < i) : ¬ k - 1 = k - 1 - i := Nat.ne_of_gt (Nat.sub_lt (Nat.lt_of_lt_of_le h0 (Nat.le_sub_one_of_lt hi)) h0)
theorem lo7 {k i : Nat} : ¬ k - 1 - i + 1 = k - 1 - i := Nat.succ_ne_self _
theorem lo8 {k i : Nat} (hi : i < k) : k - 1 - i < k := Nat.lt_of_le_of_lt (Nat.sub_le _ _) (Nat.sub_lt (Nat.lt_of_le_of_lt (Nat.zero_le _) hi) Nat.one_pos)
theorem lo9 {k j : Nat} (h : k - (0 + 1) ≤ j) (h2 : j < k - 1) : False := Nat.not_lt_of_le h h2
theorem loA {k j j' : Nat} (h1 : k - (0 + 1) ≤ j) (h2 : k - (0 + 1) ≤ j') (h3 : j < k) (h4 : j' < k) : j = j' := (Nat.le_antisymm (Nat.le_sub_one_of_lt h3) h1).trans (Nat.le_antisymm (Nat.le_sub_one_of_lt h4) h2).symm
theorem loB {k i j j' : Nat} (q : j = k - 1 - i) (q' : j' = k - 1 - i) : j = j' := q.trans q'.symm
theorem loC {k j : Nat} (h : j < k - 1) : j < k := Nat.lt_of_lt_of_le h (Nat.sub_le _ _)
theorem loD {k j : Nat} : k - k ≤ j := Nat.le_trans (Nat.le_of_eq (Nat.sub_self k)) (Nat.zero_le j)
theorem e2_8 {α β : Type} {A B C D E F H I : α → β → Prop} {G : Prop} (h : ∃ x y, A x y ∧ B x y ∧ C x y ∧ D x y ∧ E x y ∧ F x y ∧ H x y ∧ I x y) (k : ∀ x y, A x y → B x y → C x y → D x y → E x y → F x y → H x y → I x y → G) : G :=
  let ⟨x, y, a, b, c, d, e, f, g, i⟩ := h; k x y a b c d e f g i
theorem dflt186 (w : World) : (KK w).lookup 186 = some (tupO #[.ref NIL] 0) := by kernel_rfl
theorem list_of_open {w : World} {h₀ : Heap} {l : Addr} {us args ds : List Value} {T : Nat → Value} {k : Nat} {tl : Addr} (hk0 : 0 < k) (hl : Lst g l us) (hlen : us.length = k) (hT : ∀ i, i < k → us[i]? = some (T i)) (hh : ∀ i, i < k → handedIn (T i) = true) (hk1 : k ≤ 100000)
    (had : (args = [.ref l] ∧ ds = [.ref tl] ∧ tl = NIL) ∨ (args = [.ref l, .ref tl] ∧ ds = [])) :
    FN w h₀ (.ref 193) args g [] 3 (fun v g' n' => ∃ P d, v = .ref (P 0) ∧ n' = [(d, DicM (celF (T (k - 1)) (.ref tl)))] ∧ Opn g g' P T k d) (fun _ _ => False) := by
  have e0 : args ++ ds = [.ref l, .ref tl] := by rcases had with ⟨rfl, rfl, _⟩ | ⟨rfl, rfl⟩ <;> rfl
  refine' FN.of (ps := ["things", "tail"]) (rest := ["found", "place"]) (ds := ds) ?ho ?hcd ?hb ?hl ?hn ?hnd ?hc ?hco ?hg ?hk ?h
  (case ho => walk_at "M.is"); (case hcd => walk_at "M.is")
  case hb =>
    intro s vs X h
    have e186 := dflt186 w
    rcases had with ⟨rfl, rfl, rfl⟩ | ⟨rfl, rfl⟩
    · cases h with | cons h1 h2 =>
        cases h2
        obtain rfl := h1.ref
        refine' ⟨[.ref NIL], .cons rfl .nil, BindsTo.of_defaults (T := 186) (items := #[.ref NIL]) rfl (X 186 _ e186) rfl rfl rfl⟩
    · (repeat (rename Mine.AllIs _ _ => hx; cases hx)); refine' ⟨[], .nil, BindsTo.of_defaults (T := 186) (items := #[.ref NIL]) rfl (X 186 _ e186) rfl rfl rfl⟩
  case hl => rcases had with ⟨rfl, rfl, _⟩ | ⟨rfl, rfl⟩ <;> rfl
  (case hn => kernel_rfl); (case hnd => decide +kernel); (case hc => kernel_rfl); (case hco => rfl); (case hg => rfl); (case hk => rfl)
  intro c hw hh0 hsc hk hn0 hcomp hcl hcd hnm G hb
  subst hw hh0
  rw [e0]
  dsimp only [List.zip, List.zipWith, List.map, List.append, HAppend.hAppend, Append.append]
  walk_at "M.go"
  rename_i r g1 le1 hr
  rw [hlen] at hr
  refine Iter.rng (k := -1) (len := k) hr (small_down (by walk_at "M.om")) range_down fun it => ?_
  refine ⟨fun i m1 g1 n1 => i ≤ k ∧ ∃ fnd pl, m1 = [(("things" : Str), some (.ref l)), (("tail" : Str), some (.ref tl)), (("found" : Str), some (.ref fnd)), (("place" : Str), pl)] ∧ (i = 0 → n1 = [] ∧ fnd = tl) ∧
      (0 < i → ∃ (P : Nat → Addr) (d : Addr), fnd = P (k - i) ∧ n1 = [(d, DicM (celF (T (k - 1)) (.ref tl)))] ∧ c.h0.get? d = none ∧ (∀ j, k - i ≤ j → j < k - 1 → Cel g1 (P j) (T j) (.ref (P (j + 1)))) ∧ g1 (P (k - 1)) = some (instObj CONS d) ∧
        (∀ j, k - i ≤ j → j < k → g (P j) = none) ∧ (∀ j j', k - i ≤ j → k - i ≤ j' → j < k → j' < k → P j = P j' → j = j') ∧ (∀ j, k - i ≤ j → j < k → ∃ o, g1 (P j) = some o)), ⟨Nat.zero_le _, tl, _, rfl, fun _ => ⟨rfl, rfl⟩, fun h => absurd h (Nat.lt_irrefl 0)⟩, fun _ _ _ _ _ => trivial, ?_, ?_⟩
  · rintro i u m1 g2 g3 n1 le2 hi ⟨_, fnd, pl, rfl, h0, h1⟩ le3 rfl
    refine AG.name (by walk_at "M.put") ?_
    have le03 : Le g g3 := le1.trans (le2.trans le3)
    have hnn : ∀ a, g3 a = none → g a = none := fun a e => by
      cases q : g a with
      | none => rfl
      | some o => rw [le03 a o q] at e; cases e
    have hl3 : Lst g3 l us := hl.le le03
    walk_at "M.go"
    refine SB.lst (.inl hl3) (by clear hlen hk1; omega) (by walk_at "M.om") (u := T (k - 1 - i)) (by rw [lo5 hi]; exact hT _ (lo8 hi)) ?_
    walk_at "M.go"
    refine CA.cons (hh _ (lo8 hi)) rfl (by walk_at "M.om") fun x d g4 le4 hx hd hgx => ?_
    walk_at "M.s"
    rcases Nat.eq_zero_or_pos i with rfl | hi0
    · obtain ⟨rfl, rfl⟩ := h0 rfl
      refine SX.perm (List.perm_append_comm (l₁ := [(d, _)])) ?_
      walk_at "M.go"
      refine ⟨_, rfl, hi, x, _, rfl, fun h => absurd h (Nat.succ_ne_zero _), fun _ => ⟨fun _ => x, d, rfl, rfl, hd, fun j h1 h2 => (lo9 h1 h2).elim, hx, fun j _ _ => hnn x hgx, fun j j' h1 h2 h3 h4 _ => loA h1 h2 h3 h4, fun _ _ _ => ⟨_, hx⟩⟩⟩
    · refine e2_8 (h1 hi0) fun P d0 q1 q2 hd0 hc hz hnew hinj hsome => ?_
      subst q1 q2
      refine SX.frzC hd hx fun g5 le5 hcel => ?_
      walk_at "M.go"
      have le35 := le3.trans (le4.trans le5)
      have old : ∀ j, k - i ≤ j → j < k → P j ≠ x := fun j h1 h2 e => by
        obtain ⟨o, ho⟩ := hsome j h1 h2
        rw [← e, le3 _ _ ho] at hgx; cases hgx
      refine ⟨_, rfl, hi, x, _, rfl, fun h => absurd h (Nat.succ_ne_zero _), fun _ => ⟨fun j => if j = k - 1 - i then x else P j, d0, (if_pos lo4).symm, rfl, hd0, fun j h1 h2 => ?_, ?_, fun j h1 h2 => ?_, fun j j' h1 h2 h3 h4 e => ?_, fun j h1 h2 => ?_⟩⟩
      · dsimp only
        by_cases q : j = k - 1 - i
        · rw [if_pos q, if_neg (q ▸ lo7), q]
          rw [lo3 hi]; exact hcel
        · rw [if_neg q, if_neg (lo2 h1 q)]
          exact (hc j (lo1 hi h1 q) h2).le le35
      · dsimp only
        rw [if_neg (lo6 hi hi0)]; exact le35 _ _ hz
      · dsimp only
        split
        · exact hnn x hgx
        · rename_i q; exact hnew j (lo1 hi h1 q) h2
      · dsimp only at e
        by_cases q : j = k - 1 - i <;> by_cases q' : j' = k - 1 - i
        · exact loB q q'
        · rw [if_pos q, if_neg q'] at e; exact absurd e.symm (old j' (lo1 hi h2 q') h4)
        · rw [if_neg q, if_pos q'] at e; exact absurd e (old j (lo1 hi h1 q) h3)
        · rw [if_neg q, if_neg q'] at e; exact hinj j j' (lo1 hi h1 q) (lo1 hi h2 q') h3 h4 e
      · dsimp only
        split
        · exact ⟨_, le5 _ _ hx⟩
        · rename_i q; obtain ⟨o, ho⟩ := hsome j (lo1 hi h1 q) h2
          exact ⟨o, le35 _ _ ho⟩
  · rintro m1 g2 g3 n1 le2 ⟨_, fnd, pl, rfl, h0, h1⟩ le3
    refine e2_8 (h1 hk0) fun P d q1 q2 hd hc hz hnew hinj _ => ?_
    subst q1 q2
    walk_at "M.go"
    exact ⟨P, d, by rw [Nat.sub_self], rfl, ⟨fun j h => (hc j (by walk_at "M.om") h).le le3⟩, le3 _ _ hz, fun j h => hnew j (by walk_at "M.om") h, fun j j' h1 h2 => hinj j j' (by walk_at "M.om") (by walk_at "M.om") h1 h2⟩
end Mine

namespace Mine
variable {c : Cx} {m : Loc} {g : View} {n : Led} {Φ : Post} {Ψ : XPost} {F : FPost}
structure NewC (g g' : View) (P : Nat → Addr) (T : Nat → Value) (k : Nat) (tl : Addr) : Prop where
  chn : Chn g' P T k
  fin : P k = tl
  new : ∀ i, i < k → g (P i) = none
  inj : ∀ i j, i < k → j < k → P i = P j → i = j
theorem Opn.shut {g g' g'' : View} {P : Nat → Addr} {T : Nat → Value} {k : Nat} {d tl : Addr} {o : Obj} (hk : 0 < k) (h : Opn g g' P T k d) (le : Le g' g'') (ho : g'' d = some o) (hd : DicM (celF (T (k - 1)) (.ref tl)) o) : NewC g g'' (fun i => if i = k then tl else P i) T k tl := by
  refine ⟨⟨fun i hi => ?_⟩, if_pos rfl, fun i hi => ?_, fun i j hi hj e => ?_⟩
  · rw [if_neg (by walk_at "M.om")]
    by_cases q : i + 1 = k
    · rw [if_pos q]
      obtain rfl : i = k - 1 := by omega
      exact ⟨d, o, le _ _ h.lst, ho, hd⟩
    · rw [if_neg q]; exact (h.chn.cel i (by walk_at "M.om")).le le
  · rw [if_neg (by walk_at "M.om")]; exact h.new i hi
  · rw [if_neg (by walk_at "M.om"), if_neg (by walk_at "M.om")] at e; exact h.inj i j hi hj e
theorem list_of_fn {w : World} {h₀ : Heap} {l : Addr} {us args ds : List Value} {T : Nat → Value} {k : Nat} {tl : Addr} (hk0 : 0 < k) (hl : Lst g l us) (hlen : us.length = k) (hT : ∀ i, i < k → us[i]? = some (T i)) (hh : ∀ i, i < k → handedIn (T i) = true) (hk1 : k ≤ 100000)
    (had : (args = [.ref l] ∧ ds = [.ref tl] ∧ tl = NIL) ∨ (args = [.ref l, .ref tl] ∧ ds = [])) :
    FT w h₀ (.ref 193) args g 3 (fun v g' => ∃ P, v = .ref (P 0) ∧ NewC g g' P T k tl) :=
  (list_of_open hk0 hl hlen hT hh hk1 had).frz fun v g' n' g'' z le le' hall => by
    obtain ⟨P, d, rfl, rfl, hO⟩ := z
    obtain ⟨o, ho, hd⟩ := hall _ (.head _)
    exact ⟨_, by rw [if_neg (by walk_at "M.om")], hO.shut hk0 le' ho hd⟩
theorem list_of_nil {w : World} {h₀ : Heap} {l : Addr} (hl : Lst g l []) : FT w h₀ (.ref 193) [.ref l] g 3 (fun v _ => v = .ref NIL) := by
  refine' FN.of (ps := ["things", "tail"]) (rest := ["found", "place"]) (ds := [.ref NIL]) ?ho ?hcd ?hb ?hl ?hn ?hnd ?hc ?hco ?hg ?hk ?h
  (case ho => walk_at "M.is"); (case hcd => walk_at "M.is")
  case hb =>
    intro s vs X h
    have e186 := dflt186 w
    cases h with | cons h1 h2 =>
        cases h2
        obtain rfl := h1.ref
        refine' ⟨[.ref NIL], .cons rfl .nil, BindsTo.of_defaults (T := 186) (items := #[.ref NIL]) rfl (X 186 _ e186) rfl rfl rfl⟩
  case hl => rfl
  (case hn => kernel_rfl); (case hnd => decide +kernel); (case hc => kernel_rfl); (case hco => rfl); (case hg => rfl); (case hk => rfl)
  intro c hw hh0 hsc hk hn0 hcomp hcl hcd hnm G hb
  subst hw hh0
  dsimp only [List.zip, List.zipWith, List.map, List.append, HAppend.hAppend, Append.append]
  walk_at "M.go"
  rename_i r g1 le1 hr
  refine Iter.rng (k := -1) (len := 0) hr (small_down (k := 0) (by walk_at "M.om")) (range_down (k := 0)) fun it => ?_
  refine ⟨fun i m1 g1 n1 => n1 = [] ∧ m1 = [(("things" : Str), some (.ref l)), (("tail" : Str), some (.ref NIL)), (("found" : Str), some (.ref NIL)), (("place" : Str), none)], ⟨rfl, rfl⟩, fun _ _ _ _ _ => trivial, fun i _ _ _ _ _ _ h => absurd h (by walk_at "M.om"), ?_⟩
  rintro m1 g2 g3 n1 le2 ⟨rfl, rfl⟩ le3
  walk_at "M.go"
  exact ⟨rfl, rfl⟩
theorem CO.noneIs {a : Addr} (h : Φ (.bool false) g n) : CO c m g n .Is .none (.ref a) Φ Ψ := fun u' v' hu hv => DO.val h fun s Q E S hQ => by
  obtain rfl := hu.none; obtain rfl := hv.ref
  exact wpAny_is_other rfl (by intro q; cases q) (hQ _ s.heap s.toks (Is.rfl' _) S)
theorem CO.noneIsnt {a : Addr} (h : Φ (.bool true) g n) : CO c m g n .IsNot .none (.ref a) Φ Ψ := fun u' v' hu hv => DO.val h fun s Q E S hQ => by
  obtain rfl := hu.none; obtain rfl := hv.ref
  exact wpAny_isNot_other rfl (by intro q; cases q) (hQ _ s.heap s.toks (Is.rfl' _) S)
theorem CO.nilCel {a : Addr} {x y : Value} (hi : Cel g a x y) (h : Φ (.bool false) g n) : CO c m g n .Is (.ref NIL) (.ref a) Φ Ψ := fun u' v' hu hv s Q E S =>
  CO.is (n := n) S.nil.nt hi.nt.th (by rw [decide_eq_false (fun e => (hi.ne_nil S.nil) e.symm)]; exact h) u' v' hu hv s Q E S
theorem CO.celCel {a b : Addr} {x y x' y' : Value} {r : Bool} (hi : Cel g a x y) (hj : Cel g b x' y') (hr : decide (a = b) = r) (h : Φ (.bool r) g n) : CO c m g n .Is (.ref a) (.ref b) Φ Ψ := CO.is hi.nt hj.nt.th (by rw [hr]; exact h)
end Mine
local macro_rules | `(tactic| walk_at "M.co") => `(tactic| first | with_reducible refine Mine.CO.noneIs ?_ | with_reducible refine Mine.CO.noneIsnt ?_)
namespace Mine
variable {c : Cx} {m : Loc} {g : View} {n : Led} {Φ : Post} {Ψ : XPost} {F : FPost}
structure Prp (g : View) (P : Nat → Addr) (T : Nat → Value) (k : Nat) : Prop where
  chn : Chn g P T k
  fin : P k = NIL
  inj : ∀ i j, i < k → j < k → P i = P j → i = j
theorem Prp.le {g g' : View} {P T k} (h : Prp g P T k) (l : Le g g') : Prp g' P T k := ⟨h.chn.le l, h.fin, h.inj⟩
theorem NewC.prp {g g' : View} {P T k} (h : NewC g g' P T k NIL) : Prp g' P T k := ⟨h.chn, h.fin, h.inj⟩
theorem split_fin {w : World} {h₀ : Heap} {P : Nat → Addr} {T : Nat → Value} {k : Nat} (hR : Prp g P T k) (hk0 : 0 < k) (hk1 : k ≤ 100000) :
    FN w h₀ (.ref 200) [.ref (P 0)] g [] 1 (fun v g' n' => ∃ t l, n' = [(l, LstO ((List.range k).map T))] ∧ v = .ref t ∧ Tup g' t [.ref l, .ref NIL]) (fun _ _ => False) := by
  refine' FN.of (ps := ["datum"]) (rest := ["things", "at", "slow"]) (ds := []) ?ho ?hcd ?hb ?hl ?hn ?hnd ?hc ?hco ?hg ?hk ?h
  walk_at "M.def"
  walk_at "M.go"
  refine EX.lst ?_
  walk_at "M.go"
  intro l hl
  walk_at "M.go"
  refine SX.while (fun j m1 g1 n1 => ∃ s, s + j = k ∧ n1 = [(l, LstO ((List.range s).map T))] ∧ m1 = [(("datum" : Str), some (Value.ref (P 0))), (("things" : Str), some (Value.ref l)), (("at" : Str), some (Value.ref (P s))), (("slow" : Str), some (Value.ref (P (s / 2))))]) k
    ⟨0, Nat.zero_add _, rfl, rfl⟩ ?_
  rintro j m1 g1 n1 le1 ⟨s, hs, rfl, rfl⟩
  have hR1 := hR.le le1
  clear hR le1
  walk_at "M.go"
  rcases Nat.eq_or_lt_of_le (show s ≤ k from hs ▸ Nat.le_add_right s j) with rfl | hlt
  · rw [hR1.fin]
    refine CA.nilCons' ?_
    walk_at "M.go"
    intro t g2 le2 ht
    exact ⟨t, l, rfl, rfl, ht⟩
  · have hc := hR1.chn.cel s hlt
    refine CA.isCons hc ?_
    walk_at "M.go"
    have e1 : (List.range s).map T ++ [T s] = (List.range (s + 1)).map T := by rw [List.range_succ, List.map_append]; rfl
    rw [e1]
    have hl1 : (((List.range (s + 1)).map T).length : Int).fmod 2 = ((s + 1) % 2 : Nat) := by
      rw [List.length_map, List.length_range, Int.fmod_eq_emod_of_nonneg _ (by walk_at "M.om")]
      push_cast
      rfl
    refine ⟨fun hz => ?_, fun hz => ?_⟩
    · rw [hl1, beq_iff_eq] at hz
      have hev := half_e (nz_of hz)
      clear hz hl1
      have hj0 : 0 < j := st_p hs hlt
      have hcs := hR1.chn.cel (s / 2) (st_d hev.2 hlt)
      walk_at "M.goi"
      have hcs1 := hR1.chn.cel (s / 2 + 1) (st_f hev.2 hlt)
      rcases Nat.eq_or_lt_of_le (show s + 1 ≤ k from hlt) with e | hlt1
      · rw [e, hR1.fin]
        walk_at "M.go"
        refine CO.nilCel hcs1 ?_
        walk_at "M.go"
        exact ⟨j - 1, st_b hj0, s + 1, st_a hs hj0, by rw [e], by rw [e, hR1.fin, show k / 2 = s / 2 + 1 from e ▸ hev.1]⟩
      · have hne : P (s + 1) ≠ P (s / 2 + 1) := fun e => st_g hev.2 (hR1.inj _ _ hlt1 (st_f hev.2 hlt) e)
        have hcn := hR1.chn.cel (s + 1) hlt1
        walk_at "M.go"
        rw [decide_eq_false hne]
        walk_at "M.go"
        exact ⟨j - 1, st_b hj0, s + 1, st_a hs hj0, rfl, by rw [hev.1]⟩
    · have hz : ¬ (s + 1) % 2 = 0 := by rw [hl1, beq_eq_false_iff_ne] at hz; exact fun e => hz (by rw [e]; rfl)
      walk_at "M.go"
      exact ⟨j - 1, st_b (st_p hs hlt), s + 1, st_a hs (st_p hs hlt), rfl, by rw [half_o hz]⟩
theorem CA.frzL {f : Value} {vs us : List Value} {a : Addr} (h0 : c.h0.get? a = none) (h : ∀ g2, Le g g2 → Lst g2 a us → CA c m g2 n f vs Φ Ψ) : CA c m g ((a, LstO us) :: n) f vs Φ Ψ := fun vs' hv =>
  DO.freeze h0 fun o hP le => h _ le ⟨o, gset_self, hP⟩ vs' hv
section
variable {w : World} {h₀ : Heap} {P : Nat → Addr} {T : Nat → Value} {a q k : Nat} {x : Value} {l : Addr} {tk : Tok}
theorem things_of_fin (hR : Prp g P T k) (hk0 : 0 < k) (hk1 : k ≤ 100000) : FN w h₀ (.ref 256) [.ref (P 0)] g [] 4 (fun v g' n' => ∃ l, n' = [(l, LstO ((List.range k).map T))] ∧ v = .ref l) (fun _ _ => False) := by
  refine' FN.of (ps := ["value"]) (rest := ["things", "tail"]) (ds := []) ?ho ?hcd ?hb ?hl ?hn ?hnd ?hc ?hco ?hg ?hk ?h
  walk_at "M.def"
  have hc0 := hR.chn.cel 0 hk0
  walk_at "M.go"
  refine CA.fn (split_fin (hR.le (by assumption)) hk0 hk1) (by walk_at "M.om") (fun v g' n' le fr z => ?_) (fun _ _ _ z => z.elim)
  obtain ⟨t, l, rfl, rfl, hT⟩ := z
  walk_at "M.ds"
  walk_at "M.go"
  exact ⟨l, rfl, rfl⟩
theorem things_in_fin (hR : Prp g P T k) (hk0 : 0 < k) (hk1 : k ≤ 100000) : FN w h₀ (.ref 542) [.ref (P 0)] g [] 5 (fun v g' n' => ∃ l, n' = [(l, LstO ((List.range k).map T))] ∧ v = .ref l) (fun _ _ => False) := by
  refine' FN.of (ps := ["value"]) (rest := []) (ds := []) ?ho ?hcd ?hb ?hl ?hn ?hnd ?hc ?hco ?hg ?hk ?h
  walk_at "M.def"
  have hc0 := hR.chn.cel 0 hk0
  walk_at "M.go"
  refine CA.fn (things_of_fin (hR.le (by assumption)) hk0 hk1) (by walk_at "M.om") (fun v g' n' le fr z => ?_) (fun _ _ _ z => z.elim)
  obtain ⟨l, rfl, rfl⟩ := z
  walk_at "M.ds"
  walk_at "M.go"
  exact ⟨l, rfl, rfl⟩
theorem safe_length_ring (hR : Ring g P T a q) (hL : Lst g l [.ref (P 0)]) : FT w h₀ (.ref 568) [x, .ref l] g 3 (fun v _ => ∃ s : Nat, v = .int s 0 ∧ Met a q s) := by
  refine FT.of ?_
  refine' FN.of (ps := ["world", "args"]) (rest := []) (ds := []) ?ho ?hcd ?hb ?hl ?hn ?hnd ?hc ?hco ?hg ?hk ?h
  walk_at "M.def"
  walk_at "M.go"
  refine CA.fn (split_ring_fn (by walk_at "M.ring")) (by walk_at "M.om") (fun v g' n' le fr z => ?_) (fun _ _ _ z => z.elim)
  obtain ⟨t, l', us, rfl, rfl, hT, hM⟩ := z
  walk_at "M.ds"
  have hbig := hR.big
  have hM2 := hM.2
  have : a + q ≤ q * (a + 1) := by
    have h1 : 1 * a ≤ q * a := Nat.mul_le_mul_right a hR.m0
    rw [Nat.mul_add, Nat.mul_one]; omega
  walk_at "M.go"
  exact ⟨_, rfl, hM⟩
theorem items_ring (hR : Ring g P T a q) : FT w h₀ (.ref 207) [.ref (P 0)] g 3 (fun v _ => v = .none) := by
  refine FT.of ?_
  refine' FN.of (ps := ["datum"]) (rest := ["things", "tail"]) (ds := []) ?ho ?hcd ?hb ?hl ?hn ?hnd ?hc ?hco ?hg ?hk ?h
  walk_at "M.def"
  walk_at "M.go"
  refine CA.fn (split_ring_fn (by walk_at "M.ring")) (by walk_at "M.om") (fun v g' n' le fr z => ?_) (fun _ _ _ z => z.elim)
  obtain ⟨t, l', us, rfl, rfl, hT, hM⟩ := z
  walk_at "M.ds"
  walk_at "M.go"
  exact rfl
theorem proper_ring (hR : Ring g P T a q) (hL : Lst g l [.ref (P 0)]) : FT w h₀ (.ref 277) [x, .ref l] g 4 (fun v _ => v = .ref NIL) := by
  refine FT.of ?_
  refine' FN.of (ps := ["world", "args"]) (rest := ["things"]) (ds := []) ?ho ?hcd ?hb ?hl ?hn ?hnd ?hc ?hco ?hg ?hk ?h
  walk_at "M.def"
  walk_at "M.go"
  refine CA.fte (items_ring (by walk_at "M.ring")) (by walk_at "M.om") fun g2 le2 => ?_
  walk_at "M.go"
  exact rfl
theorem take_ring {k : Nat} (hR : Ring g P T a q) (hL : Lst g l [.int k tk, .ref (P 0)]) (hk1 : k ≤ 1000) (hh : ∀ i, handedIn (T i) = true) : FT w h₀ (.ref 392) [x, .ref l] g 4 (fun v g' => ∃ Q, v = .ref (Q 0) ∧ NewC g g' Q T k NIL) := by
  refine FT.of ?_
  refine' FN.of (ps := ["world", "args"]) (rest := ["many", "found", "here"]) (ds := []) ?ho ?hcd ?hb ?hl ?hn ?hnd ?hc ?hco ?hg ?hk ?h
  walk_at "M.def"
  walk_at "M.go"
  refine EX.lst ?_
  walk_at "M.go"
  intro lf hlf
  walk_at "M.go"
  rename_i g2 le2 g3 le3
  refine SX.while (fun j m1 g1 n1 => ∃ s u, s + j = k ∧ n1 = [(lf, LstO ((List.range s).map T))] ∧ m1 = [(("world" : Str), some x), (("args" : Str), some (Value.ref l)), (("many" : Str), some (.int k u)), (("found" : Str), some (Value.ref lf)), (("here" : Str), some (Value.ref (P s)))]) k
    ⟨0, _, by walk_at "M.om", rfl, rfl⟩ ?_
  rintro j m1 g4 n1 le4 ⟨s, u, hs, rfl, rfl⟩
  walk_at "M.go"
  have hlen : ((List.range s).map T).length = s := by simp
  rw [hlen]
  refine ⟨fun hz => ?_, fun hz => ?_⟩
  · have hz : (s : Int) < k := of_decide_eq_true hz
    walk_at "M.go"
    rw [hlen, decide_eq_true (show (s : Int) < 1048576 from by walk_at "M.om")]
    walk_at "M.go"
    exact ⟨j - 1, by walk_at "M.om", s + 1, u, by walk_at "M.om", by rw [List.range_succ, List.map_append]; rfl, rfl⟩
  · have hz : ¬ (s : Int) < k := of_decide_eq_false hz
    obtain rfl : s = k := by omega
    walk_at "M.go"
    rw [hlen, decide_eq_false (show ¬ (s : Int) < s from by walk_at "M.om")]
    walk_at "M.goi"
    refine CA.frzL hlf fun g5 le5 hl5 => ?_
    rcases Nat.eq_zero_or_pos s with rfl | hs0
    · refine CA.ft (list_of_nil hl5) (by walk_at "M.om") fun v g6 le6 hv => ?_
      subst hv
      walk_at "M.go"
      exact ⟨fun _ => NIL, rfl, ⟨fun i h => absurd h (by walk_at "M.om")⟩, rfl, fun i h => absurd h (by walk_at "M.om"), fun i j h => absurd h (by walk_at "M.om")⟩
    · refine CA.ft (list_of_fn (T := T) (k := s) (tl := NIL) (ds := [.ref NIL]) hs0 hl5 hlen (fun i hi => by rw [List.getElem?_map, List.getElem?_range hi]; rfl) (fun i _ => hh i) (by walk_at "M.om") (.inl ⟨rfl, rfl, rfl⟩)) (by walk_at "M.om") fun v g6 le6 hv => ?_
      obtain ⟨Q, rfl, hQ⟩ := hv
      walk_at "M.go"
      have le05 : Le g g5 := le2.trans (le3.trans (le4.trans le5))
      refine ⟨Q, rfl, hQ.chn, hQ.fin, fun i hi => ?_, hQ.inj⟩
      have := hQ.new i hi
      cases q : g (Q i) with
      | none => rfl
      | some o => rw [le05 _ _ q] at this; cases this
end
end Mine

namespace Mine
variable {c : Cx} {m : Loc} {g : View} {n : Led} {Φ : Post} {Ψ : XPost} {F : FPost}
theorem CA.extend {l b : Addr} {us vs : List Value} {n' : Led} (U : Swap l (LstO us) (LstO (us ++ vs)) n n') (hb : LAt g n b vs) (hsz : us.length + vs.length ≤ 1000000) (h : Φ .none g n') : CA c m g n (.builtin "list.extend") [.ref l, .ref b] Φ Ψ := fun vs' hv s Q E S hQ hE => by
  cases hv with | cons h1 h2 => cases h2 with | cons h3 h4 =>
    cases h4; obtain rfl := h1.ref; obtain rfl := h3.ref
    obtain ⟨o, ho, its, k, rfl, hI⟩ := S.sits.ld _ U.mem
    obtain ⟨its2, k2, ho2, hI2⟩ := hb.get S
    have e1 : us.length = its.size := by rw [hI.length]; simp
    have e2 : vs.length = its2.size := by rw [hI2.length]; simp
    have hsz' : its.size + its2.size ≤ sizeLine := by rw [sizeLine_eq]; omega
    refine call_meets PySem.F.slot_list_extend ⟨_, ho, rfl⟩ PySem.F.entry_list_extend (PySem.F.args_list_extend_2 _ _) (AutoSeq1.list_extend_list_list_0 l its k b its2 k2 (extend_door hsz') (Nat.le_trans (Nat.le_add_right _ _) hsz') (by walk_at "M.om")) ⟨ho, ho2, ?_⟩
    have ho' : (s.heap.update l (Obj.mapSeq fun x => x ++ its2)).get? l = some (listOf (its ++ its2) (if (its ++ its2).size == its.size then k else k + 1)) := by
      rw [Heap.get?_update_self _ ho (by rfl)]
      rfl
    exact hQ .none g n' _ _ ⟨_, Is.rfl' _, h⟩ (Le.rfl' g) (S.swap U (Heap.SameBut.update ..) ho' ⟨_, _, rfl, by rw [Array.toList_append]; exact hI.append hI2⟩)
section
variable {w : World} {h₀ : Heap} {P : Nat → Addr} {T : Nat → Value} {a q : Nat} {x : Value} {l : Addr} {k : Int} {tk : Tok}
theorem need_bounded_fn (h : k ≤ 1048576) : FT w h₀ (.ref 249) [.int k tk] g 1 (fun v _ => v = .int k tk) := by
  refine FT.of ?_
  refine' FN.of (ps := ["many"]) (rest := []) (ds := []) ?ho ?hcd ?hb ?hl ?hn ?hnd ?hc ?hco ?hg ?hk ?h
  walk_at "M.def"
  walk_at "M.go"
  rw [decide_eq_false (by walk_at "M.om")]
  walk_at "M.go"
  exact rfl
theorem append_ring {y : Addr} (hR : Ring g P T a q) (hL : Lst g l [.ref (P 0), .ref y]) : FR w h₀ (.ref 589) [x, .ref l] g 6 := by
  refine FR.of ?_
  refine' FN.of (ps := ["world", "args"]) (rest := ["found", "many", "place", "things"]) (ds := []) ?ho ?hcd ?hb ?hl ?hn ?hnd ?hc ?hco ?hg ?hk ?h
  walk_at "M.def"
  walk_at "M.go"
  rw [decide_eq_true (by simp)]
  walk_at "M.go"
  rename_i r g2 le2 hr
  refine Iter.rng (k := -1) (len := 1) (a := ((1 : Nat) : Int) - 1) (b := -1) hr (small_down (k := 1) (by walk_at "M.om")) (range_down (k := 1)) fun it => ?_
  refine ⟨fun i m1 g1 n1 => n1 = [] ∧ m1 = [(("world" : Str), some x), (("args" : Str), some (.ref l)), (("found" : Str), some (.ref y)), (("many" : Str), some (.int 0 0)), (("place" : Str), none), (("things" : Str), none)] ∧ i = 0, ⟨rfl, rfl, rfl⟩, fun _ _ _ _ _ => trivial, ?_, ?_⟩
  · rintro i u m1 g3 g4 n1 le3 hi ⟨rfl, rfl, rfl⟩ le4 rfl
    refine AG.name (by walk_at "M.put") ?_
    walk_at "M.go"
  · rintro m1 g3 g4 n1 le3 ⟨rfl, rfl, h⟩ le4
    cases h
theorem nconc_ring {y : Addr} (hR : Ring g P T a q) (hL : Lst g l [.ref (P 0), .ref y]) : FR w h₀ (.ref 420) [x, .ref l] g 6 := by
  refine FR.of ?_
  refine' FN.of (ps := ["world", "args"]) (rest := ["found", "place"]) (ds := []) ?ho ?hcd ?hb ?hl ?hn ?hnd ?hc ?hco ?hg ?hk ?h
  walk_at "M.def"
  walk_at "M.go"
  rw [decide_eq_true (by simp)]
  walk_at "M.go"
  rename_i r g2 le2 hr
  refine Iter.rng (k := -1) (len := 1) (a := ((1 : Nat) : Int) - 1) (b := -1) hr (small_down (k := 1) (by walk_at "M.om")) (range_down (k := 1)) fun it => ?_
  refine ⟨fun i m1 g1 n1 => n1 = [] ∧ m1 = [(("world" : Str), some x), (("args" : Str), some (.ref l)), (("found" : Str), some (.ref y)), (("place" : Str), none)] ∧ i = 0, ⟨rfl, rfl, rfl⟩, fun _ _ _ _ _ => trivial, ?_, ?_⟩
  · rintro i u m1 g3 g4 n1 le3 hi ⟨rfl, rfl, rfl⟩ le4 rfl
    refine AG.name (by walk_at "M.put") ?_
    walk_at "M.go"
    refine SX.setA ?_
    walk_at "M.go"
  · rintro m1 g3 g4 n1 le3 ⟨rfl, rfl, h⟩ le4
    cases h
end
end Mine

local macro_rules | `(tactic| walk_at "M.e2") => `(tactic| first
  | ((with_reducible refine (?_ : Mine.EX _ _ _ _ (Expr.Call (Expr.Attribute _ "extend" _) (_ :: _) [] _) _ _)); refine Mine.EX.meth PySem.F.slot_list_extend PySem.F.type_list_extend ?_))
namespace Mine
variable {c : Cx} {m : Loc} {g : View} {n : Led} {Φ : Post} {Ψ : XPost} {F : FPost}
theorem SX.drop {st : List Stmt} {p : Addr × (Obj → Prop)} (h : SX c m g n st F Ψ) : SX c m g (p :: n) st F Ψ := fun s Q E S hQ hE => h s Q E S.drop hQ hE
section
variable {w : World} {h₀ : Heap} {P P1 : Nat → Addr} {T T1 : Nat → Value} {a q k : Nat} {x : Value} {l : Addr} {tk : Tok}
theorem vconcat_ring (hR : Ring g P T a q) (hP : Prp g P1 T1 1) (hL : Lst g l [.ref (P1 0), .ref (P 0)]) : FR w h₀ (.ref 596) [x, .ref l] g 6 := by
  refine FR.of ?_
  refine' FN.of (ps := ["world", "args"]) (rest := ["found", "value"]) (ds := []) ?ho ?hcd ?hb ?hl ?hn ?hnd ?hc ?hco ?hg ?hk ?h
  walk_at "M.def"
  walk_at "M.go"
  refine EX.lst ?_
  walk_at "M.go"
  intro lf hlf
  walk_at "M.go"
  refine Iter.lst (.inl hL) fun it => ?_
  refine ⟨fun i m1 g1 n1 => i < 2 ∧ (∃ us, n1 = [(lf, LstO us)] ∧ us.length ≤ i) ∧ Le g g1 ∧ ∃ v, m1 = [(("world" : Str), some x), (("args" : Str), some (.ref l)), (("found" : Str), some (.ref lf)), (("value" : Str), v)], ⟨by walk_at "M.om", ⟨_, rfl, by simp⟩, Le.rfl' _, _, rfl⟩, ?_, ?_, ?_⟩
  · rintro i m1 g1 n1 ⟨_, _, le, _⟩
    exact .inl (hL.le le)
  · rintro i u m1 g3 g4 n1 le3 hi ⟨hi2, ⟨us, rfl, hus⟩, le03, v, rfl⟩ le4 hu
    refine AG.name (by walk_at "M.put") ?_
    walk_at "M.go"
    rcases Nat.eq_zero_or_pos i with rfl | hi0
    · cases hu
      refine CA.fn (things_in_fin (hP.le (le3.trans le4)) (by walk_at "M.om") (by walk_at "M.om")) (by walk_at "M.om") (fun v g' n' le fr z => ?_) (fun _ _ _ z => z.elim)
      obtain ⟨l2, rfl, rfl⟩ := z
      walk_at "M.ds"
      walk_at "M.go"
      refine CA.extend (by walk_at "M.swap") (.inr (by walk_at "M.mem")) (by simp; omega) ?_
      refine SX.drop ?_
      walk_at "M.go"
      refine CA.fte (need_bounded_fn (by simp; omega)) (by walk_at "M.om") fun g6 le6 => ?_
      walk_at "M.go"
      exact ⟨_, rfl, by walk_at "M.om", ⟨_, rfl, by simp only [List.length_append, List.length_map, List.length_range]; omega⟩, le03.trans (le4.trans (le.trans le6)), _, rfl⟩
    · obtain rfl : i = 1 := by omega
      cases hu
      walk_at "M.go"
  · rintro m1 g3 g4 n1 le3 ⟨h, _⟩ le4
    exact absurd h (by simp)
theorem append_fin {y : Addr} (hP : Prp g P T k) (hk0 : 0 < k) (hk1 : k ≤ 1000) (hh : ∀ i, i < k → handedIn (T i) = true) (hL : Lst g l [.ref (P 0), .ref y]) : FT w h₀ (.ref 589) [x, .ref l] g 6 (fun v g' => ∃ Q, v = .ref (Q 0) ∧ NewC g g' Q T k y) := by
  refine FT.of ?_
  refine' FN.of (ps := ["world", "args"]) (rest := ["found", "many", "place", "things"]) (ds := []) ?ho ?hcd ?hb ?hl ?hn ?hnd ?hc ?hco ?hg ?hk ?h
  walk_at "M.def"
  walk_at "M.go"
  rw [decide_eq_true (by simp)]
  walk_at "M.go"
  rename_i r g2 le2 hr
  refine Iter.rng (k := -1) (len := 1) (a := ((1 : Nat) : Int) - 1) (b := -1) hr (small_down (k := 1) (by walk_at "M.om")) (range_down (k := 1)) fun it => ?_
  refine ⟨fun i m1 g1 n1 => n1 = [] ∧ ∃ pl th mn fnd, m1 = [(("world" : Str), some x), (("args" : Str), some (.ref l)), (("found" : Str), some (.ref fnd)), (("many" : Str), some (.int mn 0)), (("place" : Str), pl), (("things" : Str), th)] ∧ (i = 0 → mn = 0 ∧ fnd = y) ∧ (i = 1 → ∃ Q, fnd = Q 0 ∧ NewC g g1 Q T k y), ⟨rfl, _, _, _, _, rfl, fun _ => ⟨rfl, rfl⟩, (fun h => by cases h)⟩, fun _ _ _ _ _ => trivial, ?_, ?_⟩
  · rintro i u m1 g3 g4 n1 le3 hi ⟨rfl, pl, th, mn, fnd, rfl, h0, _⟩ le4 rfl
    obtain rfl : i = 0 := by omega
    obtain ⟨rfl, rfl⟩ := h0 rfl
    refine AG.name (by walk_at "M.put") ?_
    have le04 : Le g g4 := le2.trans (le3.trans le4)
    walk_at "M.go"
    refine CA.fn (things_in_fin (hP.le le04) hk0 (by walk_at "M.om")) (by walk_at "M.om") (fun v g' n' le fr z => ?_) (fun _ _ _ z => z.elim)
    obtain ⟨l2, rfl, rfl⟩ := z
    walk_at "M.ds"
    walk_at "M.s"
    refine SX.frzL (fr l2 (.head _)) fun g5 le5 hl5 => ?_
    walk_at "M.go"
    refine CA.fte (need_bounded_fn (by simp; omega)) (by walk_at "M.om") fun g6 le6 => ?_
    walk_at "M.go"
    refine CA.ft (list_of_fn (T := T) (k := k) (tl := fnd) (ds := []) hk0 (hl5.le le6) (by simp) (fun i hi => by rw [List.getElem?_map, List.getElem?_range hi]; rfl) hh (by walk_at "M.om") (.inr ⟨rfl, rfl⟩)) (by walk_at "M.om") fun v g7 le7 hv => ?_
    obtain ⟨Q, rfl, hQ⟩ := hv
    walk_at "M.go"
    refine ⟨_, rfl, rfl, _, _, _, _, rfl, (fun h => by cases h), fun _ => ⟨Q, rfl, hQ.chn, hQ.fin, fun i hi => ?_, hQ.inj⟩⟩
    have le06 : Le g g6 := le04.trans (le.trans (le5.trans le6))
    have := hQ.new i hi
    cases q : g (Q i) with
    | none => rfl
    | some o => rw [le06 _ _ q] at this; cases this
  · rintro m1 g3 g4 n1 le3 ⟨rfl, pl, th, mn, fnd, rfl, _, h1⟩ le4
    obtain ⟨Q, rfl, hQ⟩ := h1 rfl
    walk_at "M.go"
    exact ⟨Q, rfl, hQ.chn.le le4, hQ.fin, hQ.new, hQ.inj⟩
end
end Mine

namespace Mine
variable {c : Cx} {m : Loc} {g : View} {n : Led} {Φ : Post} {Ψ : XPost} {F : FPost}
abbrev CeL (g : View) (n : Led) (a : Addr) (x y : Value) : Prop := InstL g n a CONS (celF x y)
theorem CA.isConsL {a : Addr} {x y : Value} (hi : CeL g n a x y) (h : Φ (.bool true) g n) : CA c m g n (.builtin "isinstance") [.ref a, .ref CONS] Φ Ψ := CA.isi_inst hi (isiOK_cons _) (kit_cons _) is_eq_ref h
theorem AT.carL {a : Addr} {x y : Value} (hi : CeL g n a x y) (h : Φ x g n) : AT c m g n (.ref a) "car" Φ Ψ := AT.inst hi (car_look x y) (readsOK_car _) h
theorem AT.cdrL {a : Addr} {x y : Value} (hi : CeL g n a x y) (h : Φ y g n) : AT c m g n (.ref a) "cdr" Φ Ψ := AT.inst hi (cdr_look x y) (readsOK_cdr _) h
theorem CO.nilCeL {a : Addr} {x y : Value} (hi : CeL g n a x y) (h : Φ (.bool false) g n) : CO c m g n .Is (.ref NIL) (.ref a) Φ Ψ := fun u' v' hu hv s Q E S =>
  CO.is (n := n) S.nil.nt (InstL.nt (n := n) hi).th (by rw [decide_eq_false (fun e => (hi.ne_nil S.nil) e.symm)]; exact h) u' v' hu hv s Q E S
theorem CO.ceLNil {a : Addr} {x y : Value} (hi : CeL g n a x y) (h : Φ (.bool false) g n) : CO c m g n .Is (.ref a) (.ref NIL) Φ Ψ := CO.cellNil hi h
theorem CO.ceLCeL {a b : Addr} {x y x' y' : Value} {r : Bool} (hi : CeL g n a x y) (hj : CeL g n b x' y') (hr : decide (a = b) = r) (h : Φ (.bool r) g n) : CO c m g n .Is (.ref a) (.ref b) Φ Ψ := CO.is (n := n) (InstL.nt hi) (InstL.nt (n := n) hj).th (by rw [hr]; exact h)
theorem CA.fnN {f : Value} {vs : List Value} {k : Nat} {Φ' : Post} {Ψ' : XPost} (F : FN c.w c.h₀ f vs g n k Φ' Ψ') (hk : k ≤ c.k)
    (hΦ : ∀ v g' n', Le g g' → (∀ a ∈ addrs n', a ∈ addrs n ∨ c.h0.get? a = none) → Φ' v g' n' → Φ v g' n') (hΨ : ∀ g' n', Le g g' → Ψ' g' n' → Ψ g' n') : CA c m g n f vs Φ Ψ := by
  have := CA.fnP (c := c) (m := m) (g := g) (Φ := Φ) (Ψ := Ψ) (pre := []) (nc := n) (post := []) F hk (fun v g' n' le fr z => by simpa using hΦ v g' n' le fr z) (fun g' n' le z => by simpa using hΨ g' n' le z)
  simpa using this
structure ChL (g : View) (n : Led) (P : Nat → Addr) (T : Nat → Value) (k : Nat) : Prop where
  cel : ∀ i, i < k → CeL g n (P i) (T i) (.ref (P (i + 1)))
  fin : P k = NIL
  inj : ∀ i j, i < k → j < k → P i = P j → i = j
theorem ChL.le {g g' : View} {P T k} (h : ChL g n P T k) (l : Le g g') : ChL g' n P T k := ⟨fun i hi => (h.cel i hi).le l fun _ h => h, h.fin, h.inj⟩
end Mine
local macro_rules | `(tactic| walk_at "M.sa") => `(tactic| ((case hC => walk_at "M.is"); (case hN => walk_at "M.is"); (case hc => kernel_rfl); (case hB => rw [typeLookup_type, builtinLookup_eq_fast]; kernel_rfl)))
local macro_rules | `(tactic| walk_at "M.at") => `(tactic| first
  | ((with_reducible refine (?_ : Mine.AT _ _ _ _ (Value.ref _) "car" _ _)); refine Mine.AT.carL (by assumption) ?_)
  | ((with_reducible refine (?_ : Mine.AT _ _ _ _ (Value.ref _) "cdr" _ _)); refine Mine.AT.cdrL (by assumption) ?_))
local macro_rules | `(tactic| walk_at "M.isi2") => `(tactic| first
  | ((with_reducible refine (?_ : Mine.CA _ _ _ _ _ [Value.ref _, Value.ref Mine.CONS] _ _)); refine Mine.CA.isConsL (by assumption) ?_))
namespace Mine
variable {c : Cx} {m : Loc} {g : View} {n : Led} {Φ : Post} {Ψ : XPost} {F : FPost}
section
variable {w : World} {h₀ : Heap} {P P1 : Nat → Addr} {T T1 : Nat → Value} {a q k : Nat} {x : Value} {l : Addr} {tk : Tok}
theorem is_listL {a : Addr} {u v : Value} (hx : CeL g n a u v) : FN w h₀ (.ref 221) [.ref a] g n 1 (fun v _ n' => v = .bool true ∧ n' = n) (fun _ _ => False) := by
  refine' FN.of (ps := ["datum"]) (rest := []) (ds := []) ?ho ?hcd ?hb ?hl ?hn ?hnd ?hc ?hco ?hg ?hk ?h
  walk_at "M.def"
  walk_at "M.go"
  exact ⟨rfl, rfl⟩
theorem need_listL {a : Addr} {u v : Value} (hx : CeL g n a u v) : FN w h₀ (.ref 235) [.ref a] g n 2 (fun v _ n' => v = .ref a ∧ n' = n) (fun _ _ => False) := by
  refine' FN.of (ps := ["value"]) (rest := []) (ds := []) ?ho ?hcd ?hb ?hl ?hn ?hnd ?hc ?hco ?hg ?hk ?h
  walk_at "M.def"
  walk_at "M.go"
  refine CA.fnN (is_listL hx) (by walk_at "M.om") (fun v g' n' le z1 z => ?_) (fun _ _ _ z => z.elim)
  obtain ⟨rfl, rfl⟩ := z
  walk_at "M.go"
  exact ⟨rfl, rfl⟩
theorem ChL.mono {n' : Led} (h : ChL g n P T k) (hn : ∀ p ∈ n, p ∈ n') : ChL g n' P T k := ⟨fun i hi => (h.cel i hi).le (Le.rfl' g) hn, h.fin, h.inj⟩
theorem ring_of_fin (hP : ChL g n P T k) : FN w h₀ (.ref 364) [.ref (P 0)] g n 3 (fun v _ n' => v = .none ∧ n' = n) (fun _ _ => False) := by
  refine' FN.of (ps := ["value"]) (rest := ["slow", "fast", "ahead", "here", "many"]) (ds := []) ?ho ?hcd ?hb ?hl ?hn ?hnd ?hc ?hco ?hg ?hk ?h
  walk_at "M.def"
  walk_at "M.go"
  refine SX.while (fun j m1 g1 n1 => ∃ s, 2 * s + j = k ∧ n1 = n ∧ m1 = [(("value" : Str), some (Value.ref (P 0))), (("slow" : Str), some (Value.ref (P s))), (("fast" : Str), some (Value.ref (P (2 * s)))), (("ahead" : Str), none), (("here" : Str), none), (("many" : Str), none)]) k ⟨0, by walk_at "M.om", rfl, rfl⟩ ?_
  rintro j m1 g1 n1 le1 ⟨s, hs, rfl, rfl⟩
  have hP1 := hP.le le1
  clear hP le1
  walk_at "M.go"
  rcases Nat.eq_or_lt_of_le (show 2 * s ≤ k from by walk_at "M.om") with e | h1
  · rw [e, hP1.fin]
    refine CA.nilCons' ?_
    walk_at "M.go"
    exact ⟨rfl, rfl⟩
  have c1 := hP1.cel (2 * s) h1
  refine CA.isConsL c1 ?_
  walk_at "M.go"
  rcases Nat.eq_or_lt_of_le (show 2 * s + 1 ≤ k from by walk_at "M.om") with e | h2
  · rw [e, hP1.fin]
    refine CA.nilCons' ?_
    walk_at "M.go"
    exact ⟨rfl, rfl⟩
  have c2 := hP1.cel (2 * s + 1) h2
  have c3 := hP1.cel s (by walk_at "M.om")
  have c4 := hP1.cel (s + 1) (by walk_at "M.om")
  refine CA.isConsL c2 ?_
  walk_at "M.go"
  rcases Nat.eq_or_lt_of_le (show 2 * s + 1 + 1 ≤ k from by walk_at "M.om") with e | h3
  · rw [e, hP1.fin]
    refine CO.ceLNil c4 ?_
    walk_at "M.go"
    exact ⟨j - 2, by walk_at "M.om", s + 1, by walk_at "M.om", rfl, by rw [show 2 * (s + 1) = k from by walk_at "M.om", hP1.fin]⟩
  · have c5 := hP1.cel (2 * s + 1 + 1) h3
    refine CO.ceLCeL c4 c5 (decide_eq_false fun e => by have := hP1.inj _ _ (by walk_at "M.om") h3 e; omega) ?_
    walk_at "M.go"
    exact ⟨j - 2, by walk_at "M.om", s + 1, by walk_at "M.om", rfl, by rw [show 2 * (s + 1) = 2 * s + 1 + 1 from by omega]⟩
theorem last_pair_fin (hP : ChL g n P T k) (hk0 : 0 < k) : FN w h₀ (.ref 413) [.ref (P 0)] g n 5 (fun v _ n' => v = .ref (P (k - 1)) ∧ n' = n) (fun _ _ => False) := by
  refine' FN.of (ps := ["value"]) (rest := ["here"]) (ds := []) ?ho ?hcd ?hb ?hl ?hn ?hnd ?hc ?hco ?hg ?hk ?h
  walk_at "M.def"
  walk_at "M.go"
  refine CA.fnN (ring_of_fin hP) (by walk_at "M.om") (fun v g' n' le z1 z => ?_) (fun _ _ _ z => z.elim)
  obtain ⟨rfl, rfl⟩ := z
  walk_at "M.go"
  refine SX.while (fun j m1 g1 n1 => ∃ s, s + 1 + j = k ∧ n1 = n' ∧ m1 = [(("value" : Str), some (Value.ref (P 0))), (("here" : Str), some (Value.ref (P s)))]) (k - 1) ⟨0, by walk_at "M.om", rfl, rfl⟩ ?_
  rintro j m1 g1 n1 le1 ⟨s, hs, rfl, rfl⟩
  have hP1 := hP.le (le.trans le1)
  have c1 := hP1.cel s (by walk_at "M.om")
  walk_at "M.go"
  rcases Nat.eq_or_lt_of_le (show s + 1 ≤ k from by walk_at "M.om") with e | h2
  · rw [e, hP1.fin]
    refine CA.nilCons' ?_
    walk_at "M.go"
    exact ⟨by rw [show s = k - 1 from by omega], rfl⟩
  · have c2 := hP1.cel (s + 1) h2
    refine CA.isConsL c2 ?_
    walk_at "M.go"
    exact ⟨j - 1, by walk_at "M.om", s + 1, by walk_at "M.om", rfl, rfl⟩
theorem nconc_fin {y d : Addr} (hO : Opn (fun _ => none) g P T k d) (hk0 : 0 < k) (hk1 : k ≤ 1000) (hL : Lst g l [.ref (P 0), .ref y]) :
    FN w h₀ (.ref 420) [x, .ref l] g [(d, DicM (celF (T (k - 1)) (.ref NIL)))] 6 (fun v g' n' => v = .ref (P 0) ∧ n' = [(d, DicM (celF (T (k - 1)) (.ref y)))]) (fun _ _ => False) := by
  obtain ⟨P', hP, hP0, hPk⟩ : ∃ P', ChL g [(d, DicM (celF (T (k - 1)) (.ref NIL)))] P' T k ∧ P' 0 = P 0 ∧ P' (k - 1) = P (k - 1) := by
    refine ⟨fun i => if i = k then NIL else P i, ⟨fun i hi => ?_, if_pos rfl, fun i j hi hj e => ?_⟩, if_neg (by walk_at "M.om"), if_neg (by walk_at "M.om")⟩
    · rw [if_neg (by walk_at "M.om")]
      by_cases q : i + 1 = k
      · rw [if_pos q]
        obtain rfl : i = k - 1 := by omega
        exact ⟨d, hO.lst, .inr (.head _)⟩
      · rw [if_neg q]; exact (hO.chn.cel i (by walk_at "M.om")).inst
    · rw [if_neg (by walk_at "M.om"), if_neg (by walk_at "M.om")] at e; exact hO.inj i j hi hj e
  refine' FN.of (ps := ["world", "args"]) (rest := ["found", "place"]) (ds := []) ?ho ?hcd ?hb ?hl ?hn ?hnd ?hc ?hco ?hg ?hk ?h
  walk_at "M.def"
  walk_at "M.go"
  rw [decide_eq_true (by simp)]
  walk_at "M.go"
  rename_i r g2 le2 hr
  refine Iter.rng (k := -1) (len := 1) (a := ((1 : Nat) : Int) - 1) (b := -1) hr (small_down (k := 1) (by walk_at "M.om")) (range_down (k := 1)) fun it => ?_
  refine ⟨fun i m1 g1 n1 => ∃ pl fnd tl, n1 = [(d, DicM (celF (T (k - 1)) (.ref tl)))] ∧ m1 = [(("world" : Str), some x), (("args" : Str), some (.ref l)), (("found" : Str), some (.ref fnd)), (("place" : Str), pl)] ∧ (i = 0 → tl = NIL ∧ fnd = y) ∧ (i = 1 → tl = y ∧ fnd = P 0), ⟨_, _, _, rfl, rfl, fun _ => ⟨rfl, rfl⟩, (fun h => by cases h)⟩, fun _ _ _ _ _ => trivial, ?_, ?_⟩
  · rintro i u m1 g3 g4 n1 le3 hi ⟨pl, fnd, tl, rfl, rfl, h0, _⟩ le4 rfl
    obtain rfl : i = 0 := by omega
    obtain ⟨rfl, rfl⟩ := h0 rfl
    refine AG.name (by walk_at "M.put") ?_
    have le04 : Le g g4 := le2.trans (le3.trans le4)
    have hP4 := (hP.le le04).mono (n' := [(it, ItR (((1 : Nat) : Int) - 1 + ((0 + 1 : Nat) : Int) * -1) (((1 : Nat) : Int) - ((0 + 1 : Nat) : Int)) (-1)), (d, DicM (celF (T (k - 1)) (.ref NIL)))]) (fun p hp => .tail _ hp)
    have c0 := hP4.cel 0 hk0
    rw [hP0] at c0
    walk_at "M.ds"
    walk_at "M.go"
    refine CA.fnN (need_listL c0) (by walk_at "M.om") (fun v g' n' le z1 z => ?_) (fun _ _ _ z => z.elim)
    obtain ⟨rfl, rfl⟩ := z
    walk_at "M.go"
    refine CO.cellntNil (c0.le le fun _ h => h) ?_
    walk_at "M.go"
    refine SX.setA ?_
    walk_at "M.go"
    have hP5 := hP4.le le
    rw [← hP0]
    refine CA.fnN (last_pair_fin hP5 hk0) (by walk_at "M.om") (fun v g6 n' le6 z1 z => ?_) (fun _ _ _ z => z.elim)
    obtain ⟨rfl, rfl⟩ := z
    rw [hPk]
    refine' SA.own (C := 82) (d := d) (fs := celF (T (k - 1)) (.ref NIL)) PySem.F.store_object ?hC ?hN ?hc ?hB (.inl (le6 _ _ (le _ _ (le04 _ _ hO.lst)))) rfl (by intro _ q; cases q) (by intro _ _ q; cases q) rfl (.tail .head) (Nat.le_of_ble_eq_true rfl) rfl ?_
    walk_at "M.sa"
    walk_at "M.go"
    exact ⟨_, rfl, _, _, _, rfl, by rw [hP0], (fun h => by cases h), fun _ => ⟨rfl, rfl⟩⟩
  · rintro m1 g3 g4 n1 le3 ⟨pl, fnd, tl, rfl, rfl, _, h1⟩ le4
    obtain ⟨rfl, rfl⟩ := h1 rfl
    walk_at "M.go"
    exact ⟨rfl, rfl⟩
end
end Mine

namespace Mine
variable {c : Cx} {m : Loc} {g : View} {n : Led} {Φ : Post} {Ψ : XPost} {F : FPost}
def TabP (line col : Nat) (t : Option Addr) (o : Obj) : Prop := o = tabObj (match t with | none => #[] | some c' => #[rawInt line, rawInt col, .ref c'])
def CodeG (g : View) (c' : Addr) (q : Str) : Prop := ∃ o vs t, g c' = some o ∧ o.data = .fields vs ∧ vs[1]? = some (.str q t)
theorem CodeG.le {g g' : View} {a q} (h : CodeG g a q) (k : Le g g') : CodeG g' a q := let ⟨o, vs, t, e, r⟩ := h; ⟨o, vs, t, k _ _ e, r⟩
theorem CodeG.rec {h : Heap} {a q} (x : CodeG g a q) (S : St c m g n h) : h.CodeRec (.ref a) q := let ⟨o, vs, t, e, r⟩ := x; ⟨a, o, vs, t, rfl, S.sits.vw _ _ e, r⟩
theorem St.seen {h : Heap} {a : Addr} {o : Obj} (S : St c m g n h) (ho : h.get? a = some o) (hg : g a = none) (hn : a ∉ addrs n) (hL : a ≠ c.L) (hf : a ∉ c.fs) (h0 : c.h0.get? a = none) : Le g (gset g a o) ∧ St c m (gset g a o) n h := by
  obtain ⟨o', e, le, S'⟩ := (S.claim (P := fun x => x = o) hg hn hL hf h0 ho rfl).freeze h0
  exact e ▸ ⟨le, S'⟩
theorem EX.lam {params : Arguments} {body : Expr} {scope : Scope} {pos : Pos} {P cA : Addr} {t : Option Addr} {n1 : Led} {ln co : Nat} (fns : List Str) (hcd : c.cd = .ref cA) (C : CodeHd c.h₀ cA P) (ht : ∀ c', t = some c' → CodeG g c' (c.nm ++ ".<locals>." ++ "<lambda>"))
    (hc : ∀ x ∈ fns, ∃ a, c.cl.lookup x = some a) (hf : (scope.names.all fun x => !(x.2 == .free) || fns.contains x.1) = true) (hf' : (fns.all fun x => scope.names.any fun y => y.1 == x && y.2 == .free) = true) (hdef : defaultsOf params c.env = ([], []))
    (h : ∀ f c' ctv pm clos g1, Le g g1 → g1 f = some (kla_obj "<lambda>" (c.nm ++ ".<locals>." ++ "<lambda>") params body scope clos pm c' ctv) → (∀ x ∈ fns, clos.lookup x = c.cl.lookup x) → CodeG g1 c' (c.nm ++ ".<locals>." ++ "<lambda>") → Φ (.ref f) g1 ((P, TabP ln co (some c')) :: n1))
    (hln : pos.line = ln := by rfl) (hco : pos.col = co := by rfl) : EX c m g ((P, TabP ln co t) :: n1) (.Lambda params body scope pos) Φ Ψ := fun s Q E S hQ hE => by
  subst hln hco
  refine kla_eval hdef ?_
  refine S.G.elim fun p loose mean mg mb T => ?_
  have hgs := T.g.keeps S.stays
  obtain ⟨oP, hP, hoP⟩ := S.sits.ld _ (.head _)
  dsimp only at hP
  obtain ⟨bm, ob, b1, b2, b3, b4, b5, b6⟩ := T.bmain
  have hPg : g P = none := S.sits.off P (.head _)
  have hbP : bm ≠ P := fun q => by
    have e := S.base _ _ b3
    rw [q, hPg] at e; cases e
  have hgP : mainGlobals ≠ P := fun q => by
    obtain ⟨o, es, ep, e, hd, _⟩ := T.g
    have e := S.base _ _ e
    rw [q, hPg] at e; cases e
  have hbG : bm ≠ mainGlobals := fun q => by
    obtain ⟨o, es, ep, e, hd, _⟩ := T.g
    rw [q, e] at b3; cases b3; rw [hd] at b6; cases b6
  have hB : s.heap.BuiltinsAt mg P := ⟨bm, ob, b1, b2, hbG, hbP, S.stays _ _ b3, b4, b5, b6⟩
  have hcl := frees_ok (c := c) hf hc
  have hlk := frees_look (c := c) hf' hc
  obtain ⟨hp, gg, dr, tk, os⟩ := s
  cases t with
  | none =>
    obtain rfl : oP = tabObj #[] := hoP
    refine kla_makeFunction (ps := #[]) hcl rfl hgs hcd (C.keeps S.stays) hP trivial rfl hgP hB fun c' ctv h' tk' hx hge hlt hrec htb => ?_
    obtain ⟨c₂, oc, vs, t, e2, hoc, hd, hv⟩ := hrec
    cases e2
    have hfr : hp.get? c' = none := Heap.get?_none_of_le hge
    have S1 : St c m g ((P, TabP pos.line pos.col (some c')) :: n1) h' := S.swap' .head (fun b o hb e => hx b o hb e) htb rfl
    have hn1 : c' ∉ addrs ((P, TabP pos.line pos.col (some c')) :: n1) := S.notin_n hfr
    obtain ⟨le2, S2⟩ := S1.seen hoc (S.notin_g hfr) hn1 (S.ne_L hfr) (S.notin_fs hfr) (S.keep.old hfr)
    obtain ⟨S3, le3⟩ := S2.newObj (kla_obj "<lambda>" (c.env.qual ++ "<lambda>") params body scope (cloOf (fun x => (c.cl.lookup x).getD 0) scope.names []) ((mg "__name__").getD .none) c' ctv)
    exact hQ _ _ _ _ tk' ⟨_, Is.rfl' _, h _ c' ctv _ _ _ (le2.trans le3) gset_self hlk ⟨oc, vs, t, le3 _ _ gset_self, hd, hv⟩⟩ (le2.trans le3) S3
  | some c' =>
    obtain rfl : oP = tabObj #[rawInt pos.line, rawInt pos.col, .ref c'] := hoP
    refine kla_makeFunctionHit (ps := #[rawInt pos.line, rawInt pos.col, .ref c']) (cv := .ref c') hcl rfl hgs hcd (C.keeps S.stays) hP trivial (by simp [codeAmong, rawInt]) hB fun ctv h' tk' hk hsz => ?_
    obtain ⟨S3, le3⟩ := (S.grow hk).newObj (kla_obj "<lambda>" (c.env.qual ++ "<lambda>") params body scope (cloOf (fun x => (c.cl.lookup x).getD 0) scope.names []) ((mg "__name__").getD .none) c' ctv)
    exact hQ _ _ _ _ tk' ⟨_, Is.rfl' _, h _ c' ctv _ _ _ le3 gset_self hlk ((ht c' rfl).le le3)⟩ le3 S3
theorem FN.lam {w : World} {h₀ : Heap} {f c' : Addr} {qual : Str} {params : Arguments} {body : Expr} {scope : Scope} {pm ctv : Value} {clos : List (Str × Addr)} {args : List Value} {k : Nat} {ps : List Str}
    (ho : g f = some (kla_obj "<lambda>" qual params body scope clos pm c' ctv)) (hcd : CodeG g c' qual)
    (hbind : ∀ (vs : List Value), AllIs args vs → bindArgs (kla_fn "<lambda>" qual params body scope clos pm (.ref c') ctv) ⟨vs, []⟩ = pure (ps.zip vs))
    (hl : args.length = ps.length)
    (hnames : (ps.all fun x => scope.names.lookup x == some .local && !(x == ("__debug__" : Str))) = true) (hnd : ps.Nodup)
    (hcell : (scope.names.all fun x => !(x.2 == .cell)) = true) (hco : scope.isCoroutine = false) (hgen : scope.isGenerator = false) (hk : scope.kind = .function)
    (h : ∀ c : Cx, c.w = w → c.h₀ = h₀ → c.sc = scope → c.k = k → c.comp = false → c.cl = clos → G0 w h₀ → (∀ a o, h₀.get? a = some o → g a = some o) → EX c ((ps.zip args).map fun p => (p.1, some p.2)) g n body Φ Ψ) :
    FN w h₀ (.ref f) args g n (k + 1) Φ Ψ := by
  intro A outer s R vs G hb hh hA hr hs hf hd hv hΦ hΨ
  refine G.elim fun p loose mean mg mb T => ?_
  have stays : ∀ b o, h₀.get? b = some o → s.heap.get? b = some o := fun b o e => hs.vw b o (hb b o e)
  have hall : ∀ x ∈ ps, scope.names.lookup x = some .local ∧ (x == ("__debug__" : Str)) = false := fun x hx => by
    have := List.all_eq_true.mp hnames x hx
    simp only [Bool.and_eq_true, beq_iff_eq, Bool.not_eq_true'] at this
    exact this
  have hrec : s.heap.CodeRec (.ref c') qual := let ⟨o, vs, t, e, r⟩ := hcd; ⟨c', o, vs, t, rfl, hs.vw _ _ e, r⟩
  refine kla_callFunE (by have := hr.1; show A.depth < 1000; omega) (hs.vw _ _ ho) rfl hco hgen rfl hrec ?_
  rw [hbind vs hv]
  refine wpAny_pure (wpAny_newFunctionEnv (fun x hx e => by have := List.all_eq_true.mp hcell x hx; rw [e] at this; exact absurd this (by decide)) (fun x hx => (hall x.1 (List.of_mem_zip hx).1).1) (fun h₁ hns hsb => ⟨((T.nolimit).keeps stays).fresh _ hsb, ?_⟩) hk)
  have hk₁ : ∀ b o, s.heap.get? b = some o → h₁.get? b = some o := fun b o e => hsb.extBut b o (Nat.ne_of_lt (Heap.lt_size e)) (Heap.get?_push_of_some _ e)
  let c : Cx := { w := w, h₀ := h₀, nm := qual, sc := scope, L := s.heap.objs.size, fn := some f, fa := s.heap.objs.size, comp := false, cd := .ref c', cl := clos, A := A.deeper (envX qual scope s.heap.objs.size f (.ref c') clos), outer := outer, k := k, g0 := g, n0 := addrs n, h0 := s.heap, pin := [] }
  have m₀ : ((ps.zip args).map fun p => (p.1, some p.2)).map (·.1) = ps := by
    rw [List.map_map]
    have : ∀ (ps : List Str) (vs : List Value), ps.length = vs.length → (ps.zip vs).map ((fun x : Str × Option Value => x.1) ∘ fun p => (p.1, some p.2)) = ps := by
      intro ps
      induction ps with
      | nil => intro vs _; simp
      | cons p ps ih =>
        intro vs e
        cases vs with
        | nil => simp at e
        | cons v vs => rw [List.zip_cons_cons, List.map_cons, ih vs (by simpa using e)]; rfl
    exact this _ _ hl.symm
  have nlt : ∀ a ∈ addrs n, a < s.heap.objs.size := fun a ha => by
    obtain ⟨p, hp, rfl⟩ := List.mem_map.mp ha
    obtain ⟨o, q, _⟩ := hs.ld p hp
    exact Heap.lt_size q
  have S : St c ((ps.zip args).map fun p => (p.1, some p.2)) g n h₁ :=
    { G := G, base := hb, hA := by show (A.deeper _).frames = _; exact Around.frames_deeper hA, hdef := fun _ => rfl, hh := hh, hk := hk
      room := ⟨by have := hr.1; show A.depth + 1 + k ≤ 700; omega, by have := hr.2; show A.units + 3 + 20 * k ≤ 5000; omega⟩
      g0 := Le.rfl' g
      sits := ⟨fun a o e => hk₁ a o (hs.vw a o e), fun p hp => let ⟨o, e, q⟩ := hs.ld p hp; ⟨o, hk₁ _ _ e, q⟩, hs.off, hs.nd⟩
      loc := ⟨_, hns, fun x v hm => bindsAt hv hnd x v hm⟩
      mnd := by rw [m₀]; exact hnd
      mloc := fun x hx => hall x (by rw [m₀] at hx; exact hx)
      Lg := by
        cases q : g s.heap.objs.size with
        | none => rfl
        | some o => exact absurd (Heap.lt_size (hs.vw _ _ q)) (Nat.lt_irrefl _)
      Ln := fun q => Nat.lt_irrefl _ (nlt _ q)
      fr := FunFrames.grow hk₁ hf
      fg := fun a ha => (hd a ha).1
      fn := fun a ha => (hd a ha).2
      keep := Keep.of_all hk₁
      new := fun a o e => .inl e
      nnew := fun a ha => .inl ha
      Lnew := Heap.get?_fresh _
      pins := fun p hp => nomatch hp }
  have ends : ∀ m' g' n' h', Le g g' → St c m' g' n' h' → Ends outer g n s.heap g' n' h' := fun m' g' n' h' le S' => ⟨le, S'.sits, S'.keep, S'.new, S'.nnew⟩
  show codeAny _ _ (.expr body c.env) _ _
  refine kla_codeExpr (h c rfl rfl rfl rfl rfl rfl G hb { s with heap := h₁, toks := s.toks + (ps.zip vs).length } _ _ S (fun v' g' n' h' tk z le S' => ?_) fun x g' n' h' tk z le S' X' => ?_)
  · obtain ⟨v, hv', z⟩ := z
    exact hΦ _ _ g' n' h' tk z hv' (ends _ g' n' h' le S')
  · refine leaving_sig (c := c) rfl (s := { s with heap := h', toks := tk }) S' X' fun h'' S'' X'' => ?_
    refine hΨ x g' n' h'' tk z (ends _ g' n' h'' le S'') ?_
    exact X''.mv fun a h1 h2 h3 => ⟨fun q => h2 (.tail _ q), h3, h1⟩
theorem EX.freeV {x : Str} {pos : Pos} {v : Value} (hx : c.sc.names.lookup x = some .free) (hc : CellV c g x v) (hb : (x == ("__debug__" : Str)) = false) (hcd : (x == ("__classdict__" : Str)) = false) (h : Φ v g n) : EX c m g n (.Name x pos) Φ Ψ :=
  let ⟨a, o, v', h1, h2, h3, h4⟩ := hc; EX.free hx h1 h2 h3 h4 hb hcd h
end Mine

namespace Mine
variable {c : Cx} {m : Loc} {g : View} {n : Led} {Φ : Post} {Ψ : XPost} {F : FPost}
section
variable {w : World} {h₀ : Heap} {P : Nat → Addr} {T : Nat → Value} {a q : Nat} {x : Value} {l f : Addr} {k kf : Nat} {tk : Tok} {p : Nat → Bool}
def Tells (w : World) (h₀ : Heap) (g : View) (f : Addr) (T : Nat → Value) (kf : Nat) (p : Nat → Bool) : Prop := ∀ g', Le g g' → ∀ i, FT w h₀ (.ref f) [T i] g' kf (fun v _ => v = .bool (p i))
theorem rest_where_ring {Φ : Post} {Ψ : XPost} (hR : Ring g P T a q) (hf : FV g f) (hF : Tells w h₀ g f T kf p) (hk : 2 ≤ kf) (hpp : ∀ i j, P i = P j → p i = p j)
    (hΦ : ∀ i g', i < a + q → p i = true → (∀ j, j < i → p j = false) → Φ (.ref (P i)) g' []) (hΨ : (∀ j, j < a + q → p j = false) → ∀ g', Ψ g' []) :
    FN w h₀ (.ref 455) [.ref (P 0), .ref f] g [] (kf + 1) Φ Ψ := by
  refine' FN.of (ps := ["value", "is_wanted"]) (rest := ["here", "slow", "turn"]) (ds := []) ?ho ?hcd ?hb ?hl ?hn ?hnd ?hc ?hco ?hg ?hk ?h
  (walk_at "M.ent"; intro c hw hh hsc hk' hn0 hcomp hcl hcd hnm G hb; subst hw hh; walk_at "M.ds")
  walk_at "M.go"
  have hq := hR.m0
  refine SX.while (fun k m1 g1 n1 => ∃ s, s + k = 2 * (q * (a + 1)) ∧ 0 < k ∧ n1 = [] ∧ (∀ j, j < s → p j = false) ∧ (∀ j, 0 < j → 2 * j ≤ s → P j ≠ P (2 * j)) ∧ m1 = [(("value" : Str), some (Value.ref (P 0))), (("is_wanted" : Str), some (Value.ref f)), (("here" : Str), some (Value.ref (P s))), (("slow" : Str), some (Value.ref (P (s / 2)))), (("turn" : Str), some (Value.int s 0))]) (2 * (q * (a + 1)))
    ⟨0, Nat.zero_add _, Nat.mul_pos (by decide) (Nat.mul_pos hq (Nat.succ_pos a)), rfl, fun j h => absurd h (Nat.not_lt_zero j), fun j h1 h2 => (st_z h1 h2).elim, rfl⟩ ?_
  rintro k m1 g1 n1 le1 ⟨s, hs, hk0, rfl, hno, hmin, rfl⟩
  rename_i g9 le9
  have le01 := le9.trans le1
  have hR1 := hR.le le01
  have hf1 := hf.le le01
  have hper := hR1.per
  have hbig := hR.big
  walk_at "M.go"
  refine EX.callF ?_
  walk_at "M.go"
  refine CA.fte (hF _ le01 s) (Nat.le_of_eq hk'.symm) fun g2 le2 => ?_
  walk_at "M.go"
  have hR2 := hR1.le le2
  clear hR1
  cases hps : p s with
  | true =>
    walk_at "M.go"
    refine hΦ s _ (Nat.lt_of_not_le fun hge => ?_) hps hno
    have := hno (s - q) (by walk_at "M.om")
    rw [hpp (s - q) s ((hper _ _).mpr (.inr ⟨by walk_at "M.om", by walk_at "M.om", by rw [← Nat.mod_eq_sub_mod (by walk_at "M.om")]⟩)), hps] at this
    cases this
  | false =>
    have hno1 : ∀ j, j < s + 1 → p j = false := fun j hj => by
      rcases Nat.eq_or_lt_of_le (Nat.le_of_lt_succ hj) with rfl | h
      · exact hps
      · exact hno j h
    walk_at "M.go"
    have hl1 : ((s : Int) + 1).fmod 2 = ((s + 1) % 2 : Nat) := by
      rw [Int.fmod_eq_emod_of_nonneg _ (by walk_at "M.om")]
      push_cast
      rfl
    refine ⟨fun hz => ?_, fun hz => ?_⟩
    · rw [hl1, beq_iff_eq] at hz
      have hev := half_e (nz_of hz)
      clear hz hl1
      walk_at "M.go"
      refine ⟨fun hz2 => ?_, fun hz2 => ?_⟩
      · have hmt : P (s + 1) = P (s / 2 + 1) := of_decide_eq_true hz2
        have hm2 := (meet (s := s / 2 + 1) (Nat.succ_pos _) hq hper).mp (by rw [hev.2]; exact hmt.symm)
        have hqs : q ≤ s / 2 + 1 := Nat.le_of_dvd (Nat.succ_pos _) (Nat.dvd_of_mod_eq_zero hm2.2)
        walk_at "M.go"
        refine' SX.raise ?hk ?hx ?_
        (case hk => walk_at "M.om"); (case hx => walk_at "M.lk")
        walk_at "M.go"
        refine EX.lstF ?_
        walk_at "M.go"
        intro _ _ _ _
        walk_at "M.go"
        exact ⟨_, _, rfl, rfl, fun g2 _ => hΨ (fun j hj => hno1 j (st_q hev.2 hm2.1 hqs hj)) g2⟩
      · have hmt : ¬ P (s + 1) = P (s / 2 + 1) := of_decide_eq_false hz2
        walk_at "M.go"
        have hne : s + 1 ≠ 2 * (q * (a + 1)) := fun e => hmt (by
          have e2 : s / 2 + 1 = q * (a + 1) := st_n hev.2 e
          have := (meet (s := q * (a + 1)) (Nat.mul_pos hq (Nat.succ_pos a)) hq hper).mpr ⟨by calc a ≤ 1 * (a + 1) := st_1 a
                                                                       _ ≤ q * (a + 1) := Nat.mul_le_mul_right _ hq, by simp⟩
          rw [e, e2]; exact this.symm)
        refine ⟨k - 1, st_b hk0, s + 1, st_a hs hk0, st_c hs hk0 hne, rfl, hno1, fun j h1 h2 => ?_, by rw [hev.1]; push_cast; rfl⟩
        by_cases h : 2 * j ≤ s
        · exact hmin j h1 h
        · rw [st_j h2 h, st_h hev.2 (st_j h2 h)]; exact fun z => hmt z.symm
    · have hz : ¬ (s + 1) % 2 = 0 := by rw [hl1, beq_eq_false_iff_ne] at hz; exact fun e => hz (by rw [e]; rfl)
      walk_at "M.go"
      have hod := half_o hz
      refine ⟨k - 1, st_b hk0, s + 1, st_a hs hk0, st_c hs hk0 (st_o hz), rfl, hno1, fun j h1 h2 => hmin j h1 (st_l hz h2), by rw [hod]; push_cast; rfl⟩
end
end Mine

local macro_rules | `(tactic| walk_at "M.name") => `(tactic| (refine Mine.EX.freeV (by exact Mine.lk_of (by assumption) (by decide +kernel)) (by walk_at "M.cv") (by decide +kernel) (by decide +kernel) ?_))
local macro_rules | `(tactic| walk_at "M.entl") => `(tactic| (
    (case l1 => (intro vs h; first | exact Mine.AllIs.e1 h fun _ => rfl | exact Mine.AllIs.e2 h fun _ _ => rfl | exact Mine.AllIs.e3 h fun _ _ _ => rfl | exact Mine.AllIs.e0 h rfl))
    (case l2 => rfl); (case l3 => kernel_rfl); (case l4 => decide +kernel); (case l5 => kernel_rfl); (case l6 => rfl); (case l7 => rfl); (case l8 => rfl)))
namespace Mine
variable {c : Cx} {m : Loc} {g : View} {n : Led} {Φ : Post} {Ψ : XPost} {F : FPost}
abbrev qF : Str := ("rest_from" : Str) ++ ".<locals>." ++ "<lambda>"
abbrev qW : Str := ("pair_with" : Str) ++ ".<locals>." ++ "<lambda>"
theorem CellV.of {c' : Cx} {x : Str} {v : Value} (h : CellV c g x v) (e : c'.cl.lookup x = c.cl.lookup x) : CellV c' g x v := let ⟨a, o, v', h1, h2, h3, h4⟩ := h; ⟨a, o, v', e.trans h1, h2, h3, h4⟩
theorem two_ex {x y : Str} (h : ∃ a, c.cl.lookup x = some a) (h' : ∃ a, c.cl.lookup y = some a) : ∀ z ∈ [x, y], ∃ a, c.cl.lookup z = some a := fun z hz => by
  rcases List.mem_cons.mp hz with rfl | hz
  · exact h
  · rw [List.mem_singleton.mp hz]; exact h'
theorem three_ex {x y u : Str} (h : ∃ a, c.cl.lookup x = some a) (h' : ∃ a, c.cl.lookup y = some a) (h'' : ∃ a, c.cl.lookup u = some a) : ∀ z ∈ [x, y, u], ∃ a, c.cl.lookup z = some a := fun z hz => by
  rcases List.mem_cons.mp hz with rfl | hz
  · exact h
  · exact two_ex h' h'' z hz
theorem EX.callF' {x : Str} {px : Pos} {e : Expr} {es : List Expr} {pos : Pos} (h : EX c m g n (.Name x px) (kCF c m pos (e :: es) Φ Ψ) Ψ)
    (hc : eval (.Call (.Name x px) (e :: es) [] pos) c.env = (do callWith pos (← eval (.Name x px) c.env) [] (backTo pos (starEach (e :: es) c.env)) (backToKw pos (keywordEach [] c.env))) := by rfl)
    (he : starEach (e :: es) c.env = (false, eval e c.env) :: starEach es c.env := by rfl) (hplain : (backTo pos (starEach es c.env)).any (·.1) = false := by rfl) :
    EX c m g n (.Call (.Name x px) (e :: es) [] pos) Φ Ψ := EX.callF h hc he hplain
section
variable {w : World} {h₀ : Heap} {P : Nat → Addr} {T : Nat → Value} {a q : Nat} {x : Value} {l f fs : Addr} {k ks : Nat} {key : Int} {tk : Tok} {p : Nat → Bool} {t : Option Addr}
def Same (w : World) (h₀ : Heap) (g : View) (fs : Addr) (key : Int) (T : Nat → Value) (ks : Nat) (p : Nat → Bool) : Prop := ∀ g', Le g g' → ∀ i tk, FT w h₀ (.ref fs) [.int key tk, T i] g' ks (fun v _ => v = .bool (p i))
theorem rest_from_ring (hR : Ring g P T a q) (hfs : FV g fs) (hS : Same w h₀ g fs key T ks p) (hk : 2 ≤ ks) (hpp : ∀ i j, P i = P j → p i = p j) (ht : ∀ c', t = some c' → CodeG g c' qF) :
    FN w h₀ (.ref 448) [.int key tk, .ref (P 0), .ref fs] g [(443, TabP 242 29 t)] (ks + 3)
      (fun v g' n' => ∃ c' i, n' = [(443, TabP 242 29 (some c'))] ∧ CodeG g' c' qF ∧ i < a + q ∧ p i = true ∧ (∀ j, j < i → p j = false) ∧ v = .ref (P i))
      (fun g' n' => ∃ c', n' = [(443, TabP 242 29 (some c'))] ∧ CodeG g' c' qF ∧ ∀ j, j < a + q → p j = false) := by
  refine' FN.ofC (ps := ["thing", "value", "is_same"]) (rest := []) (lps := [(("value" : Str), .ref (P 0))]) [] ?ho ?hcd ?hb ?hl ?hlps ?hn ?hps ?hrest ?hnd ?hcn ?hcn' ?hco ?hg ?hk ?h
  walk_at "M.entc"
  intro c g1 ca hw hh hsc hk' hn0 hcomp hcd hnm G hle hcells hcn
  subst hw hh
  walk_at "M.ds"
  have h1 := hcells "thing" _ (.head _) (by kernel_rfl)
  have h2 := hcells "is_same" _ (.tail _ (.tail _ (.head _))) (by kernel_rfl)
  walk_at "M.go"
  refine' EX.lam ["is_same", "thing"] hcd G.c2 (fun c' e => ?m1) (two_ex h2.ex h1.ex) ?m2 ?m3 ?m4 ?_
  case m1 => rw [hnm]; exact (ht c' e).le hle
  (case m2 => kernel_rfl); (case m3 => kernel_rfl); (case m4 => rfl)
  intro f c' ctv pm clos g2 le2 hf hcl hcg
  rw [hnm] at hf hcg
  have i1 := h1.le le2
  have i2 := h2.le le2
  walk_at "M.go"
  have hR2 : Ring g2 P T a q := hR.le (hle.trans le2)
  have hT : Tells c.w c.h₀ g2 f T (ks + 1) p := by
    intro g' le' i
    refine' FN.lam (ps := ["own"]) (le' _ _ hf) (hcg.le le') ?l1 ?l2 ?l3 ?l4 ?l5 ?l6 ?l7 ?l8 ?l9
    walk_at "M.entl"
    intro cL hw hh hsc hk hcomp hclL GL hbL
    have j1 : CellV cL g' "thing" _ := (i1.le le').of (by rw [hclL]; exact hcl _ (.tail _ (.head _)))
    have j2 : CellV cL g' "is_same" _ := (i2.le le').of (by rw [hclL]; exact hcl _ (.head _))
    have hS' := hS g' (hle.trans (le2.trans le')) i
    rw [← hw, ← hh] at hS'
    have hfs' := hfs.le (hle.trans (le2.trans le'))
    walk_at "M.ds"
    refine EX.callF' ?_
    walk_at "M.go"
    refine CA.ft (hS' _) (by walk_at "M.om") fun v g3 le3 hv => ?_
    exact ⟨rfl, hv⟩
  refine CA.fn (rest_where_ring (Φ := fun v g' n' => n' = [] ∧ ∃ i, i < a + q ∧ p i = true ∧ (∀ j, j < i → p j = false) ∧ v = .ref (P i)) (Ψ := fun g' n' => n' = [] ∧ ∀ j, j < a + q → p j = false) hR2 ⟨_, _, hf, rfl⟩ hT (by walk_at "M.om") hpp (fun i g' h1 h2 h3 => ⟨rfl, i, h1, h2, h3, rfl⟩) (fun h g' => ⟨rfl, h⟩)) (by walk_at "M.om") (fun v g3 n3 le3 _ z => ?_) (fun g3 n3 le3 z => ?_)
  · obtain ⟨rfl, i, z1, z2, z3, rfl⟩ := z
    exact ⟨c', i, rfl, hcg.le le3, z1, z2, z3, rfl⟩
  · obtain ⟨rfl, z⟩ := z
    exact ⟨c', rfl, hcg.le le3, z⟩
end
end Mine

namespace Mine
variable {c : Cx} {m : Loc} {g : View} {n : Led} {Φ : Post} {Ψ : XPost} {F : FPost}
inductive Tag | num (z : Nat) | pair (x y : Nat)
def Thg (g : View) (v : Value) : Tag → Prop
  | .num z => v = .int z 0
  | .pair x y => ∃ a, v = .ref a ∧ Cel g a (.int x 0) (.int y 0)
theorem Thg.le {g g' : View} {v : Value} {t : Tag} (h : Thg g v t) (k : Le g g') : Thg g' v t := by
  cases t with
  | num z => exact h
  | pair x y => obtain ⟨a, e, h⟩ := h; exact ⟨a, e, h.le k⟩
def pNum (key : Int) : Tag → Bool
  | .num z => key == (z : Int)
  | .pair _ _ => false
def pHalf (b : Bool) (key : Int) : Tag → Bool
  | .num _ => false
  | .pair x y => key == (if b then (y : Int) else (x : Int))
section
variable {w : World} {h₀ : Heap} {P : Nat → Addr} {T : Nat → Value} {τ : Nat → Tag} {a q : Nat} {x : Value} {l f fs : Addr} {k ks : Nat} {key : Int} {tk : Tok} {p : Nat → Bool} {t : Option Addr} {b : Bool}
theorem eqS (hT : ∀ i, Thg g (T i) (τ i)) : Same w h₀ g 284 key T 2 (fun i => pNum key (τ i)) := by
  intro g' le i tk
  show FT w h₀ (.ref 284) [.int key tk, T i] g' 2 (fun v _ => v = .bool (pNum key (τ i)))
  have h := (hT i).le le
  cases e : τ i with
  | num z => rw [e] at h; rw [show T i = _ from h]; exact eq_ii
  | pair x y =>
    rw [e] at h
    obtain ⟨a, h, hc⟩ := h
    rw [h]; exact eq_ic hc
theorem eql_ii {i j : Int} {t u : Tok} : FT w h₀ (.ref 291) [.int i t, .int j u] g 3 (fun v _ => v = .bool (i == j)) := by
  refine' FN.of (ps := ["one", "other"]) (rest := []) (ds := []) ?ho ?hcd ?hb ?hl ?hn ?hnd ?hc ?hco ?hg ?hk ?h
  walk_at "M.def"
  walk_at "M.go"
  exact ⟨rfl, rfl⟩
theorem eql_ic {i : Int} {t : Tok} {a : Addr} {x y : Value} (hx : Cel g a x y) : FT w h₀ (.ref 291) [.int i t, .ref a] g 3 (fun v _ => v = .bool false) := by
  refine' FN.of (ps := ["one", "other"]) (rest := []) (ds := []) ?ho ?hcd ?hb ?hl ?hn ?hnd ?hc ?hco ?hg ?hk ?h
  walk_at "M.def"
  walk_at "M.go"
  exact ⟨rfl, rfl⟩
theorem eqlS (hT : ∀ i, Thg g (T i) (τ i)) : Same w h₀ g 291 key T 3 (fun i => pNum key (τ i)) := by
  intro g' le i tk
  show FT w h₀ (.ref 291) [.int key tk, T i] g' 3 (fun v _ => v = .bool (pNum key (τ i)))
  have h := (hT i).le le
  cases e : τ i with
  | num z => rw [e] at h; rw [show T i = _ from h]; exact eql_ii
  | pair x y =>
    rw [e] at h
    obtain ⟨a, h, hc⟩ := h
    rw [h]; exact eql_ic hc
def SameI (w : World) (h₀ : Heap) (g : View) (fs : Addr) (key : Int) (ks : Nat) : Prop := ∀ g', Le g g' → ∀ (j : Int) (tk tk' : Tok), FT w h₀ (.ref fs) [.int key tk, .int j tk'] g' ks (fun v _ => v = .bool (key == j))
theorem eqI : SameI w h₀ g 284 key 2 := fun g' _ j tk tk' => eq_ii
theorem pair_with_ring (hR : Ring g P T a q) (hT : ∀ i, Thg g (T i) (τ i)) (hfs : FV g fs) (hS : SameI w h₀ g fs key ks) (hk : 2 ≤ ks) (hpp : ∀ i j, P i = P j → pHalf b key (τ i) = pHalf b key (τ j)) (ht : ∀ c', t = some c' → CodeG g c' qW) :
    FN w h₀ (.ref 481) [.int key tk, .ref (P 0), .ref fs, .bool b] g [(476, TabP 276 30 t)] (ks + 3)
      (fun v g' n' => ∃ c' i, n' = [(476, TabP 276 30 (some c'))] ∧ CodeG g' c' qW ∧ i < a + q ∧ pHalf b key (τ i) = true ∧ (∀ j, j < i → pHalf b key (τ j) = false) ∧ v = T i)
      (fun g' n' => ∃ c', n' = [(476, TabP 276 30 (some c'))] ∧ CodeG g' c' qW ∧ ∀ j, j < a + q → pHalf b key (τ j) = false) := by
  refine' FN.ofC (ps := ["key", "value", "is_same", "is_by_cdr"]) (rest := ["found"]) (lps := [(("value" : Str), .ref (P 0))]) [] ?ho ?hcd ?hb ?hl ?hlps ?hn ?hps ?hrest ?hnd ?hcn ?hcn' ?hco ?hg ?hk ?h
  walk_at "M.entc"
  intro c g1 ca hw hh hsc hk' hn0 hcomp hcd hnm G hle hcells hcn
  subst hw hh
  walk_at "M.ds"
  have h1 := hcells "key" _ (.head _) (by kernel_rfl)
  have h2 := hcells "is_same" _ (.tail _ (.tail _ (.head _))) (by kernel_rfl)
  have h3 := hcells "is_by_cdr" _ (.tail _ (.tail _ (.tail _ (.head _)))) (by kernel_rfl)
  walk_at "M.go"
  refine' EX.lam ["is_by_cdr", "is_same", "key"] hcd G.c1 (fun c' e => ?m1) (three_ex h3.ex h2.ex h1.ex) ?m2 ?m3 ?m4 ?_
  case m1 => rw [hnm]; exact (ht c' e).le hle
  (case m2 => kernel_rfl); (case m3 => kernel_rfl); (case m4 => rfl)
  intro f c' ctv pm clos g2 le2 hf hcl hcg
  rw [hnm] at hf hcg
  have i1 := h1.le le2
  have i2 := h2.le le2
  have i3 := h3.le le2
  walk_at "M.go"
  have hR2 : Ring g2 P T a q := hR.le (hle.trans le2)
  have hTl : Tells c.w c.h₀ g2 f T (ks + 1) (fun i => pHalf b key (τ i)) := by
    intro g' le' i
    refine' FN.lam (ps := ["own"]) (le' _ _ hf) (hcg.le le') ?l1 ?l2 ?l3 ?l4 ?l5 ?l6 ?l7 ?l8 ?l9
    walk_at "M.entl"
    intro cL hw hh hsc hk hcomp hclL GL hbL
    have j1 : CellV cL g' "key" _ := (i1.le le').of (by rw [hclL]; exact hcl _ (.tail _ (.tail _ (.head _))))
    have j2 : CellV cL g' "is_same" _ := (i2.le le').of (by rw [hclL]; exact hcl _ (.tail _ (.head _)))
    have j3 : CellV cL g' "is_by_cdr" _ := (i3.le le').of (by rw [hclL]; exact hcl _ (.head _))
    have le09 := hle.trans (le2.trans le')
    have hS' := hS g' le09
    rw [← hw, ← hh] at hS'
    have hfs' := hfs.le le09
    have hi := (hT i).le le09
    walk_at "M.ds"
    cases e : τ i with
    | num z =>
      rw [e] at hi
      rw [show T i = _ from hi]
      walk_at "M.go"
      exact ⟨rfl, rfl⟩
    | pair x y =>
      rw [e] at hi
      obtain ⟨d, hi, hc⟩ := hi
      rw [hi]
      walk_at "M.go"
      refine EX.callF' ?_
      walk_at "M.go"
      cases b with
      | true =>
        walk_at "M.go"
        refine CA.ft (hS' _ _ _) (by walk_at "M.om") fun v g3 le3 hv => ?_
        exact ⟨rfl, hv⟩
      | false =>
        walk_at "M.go"
        refine CA.ft (hS' _ _ _) (by walk_at "M.om") fun v g3 le3 hv => ?_
        exact ⟨rfl, hv⟩
  refine CA.fn (rest_where_ring (Φ := fun v g' n' => n' = [] ∧ ∃ i, i < a + q ∧ pHalf b key (τ i) = true ∧ (∀ j, j < i → pHalf b key (τ j) = false) ∧ v = .ref (P i)) (Ψ := fun g' n' => n' = [] ∧ ∀ j, j < a + q → pHalf b key (τ j) = false) hR2 ⟨_, _, hf, rfl⟩ hTl (by walk_at "M.om") hpp (fun i g' h1 h2 h3 => ⟨rfl, i, h1, h2, h3, rfl⟩) (fun h g' => ⟨rfl, h⟩)) (by walk_at "M.om") (fun v g3 n3 le3 _ z => ?_) (fun g3 n3 le3 z => ?_)
  · obtain ⟨rfl, i, z1, z2, z3, rfl⟩ := z
    have hR3 := hR2.le le3
    have hcg3 := hcg.le le3
    clear le3 hR2
    have hci := hR3.cel i
    walk_at "M.ds"
    walk_at "M.go"
    exact ⟨c', i, rfl, hcg3, z1, z2, z3, rfl⟩
  · obtain ⟨rfl, z⟩ := z
    exact ⟨c', rfl, hcg.le le3, z⟩
end
end Mine

namespace Mine
variable {c : Cx} {m : Loc} {g : View} {n : Led} {Φ : Post} {Ψ : XPost} {F : FPost}
theorem AllIs.split {us : List Value} {u : Value} {ws : List Value} (h : AllIs (us ++ [u]) ws) : ∃ vs v, ws = vs ++ [v] ∧ AllIs us vs ∧ Is u v := by
  induction us generalizing ws with
  | nil => cases h with | cons h0 h1 => cases h1; exact ⟨[], _, rfl, .nil, h0⟩
  | cons x us ih =>
    cases h with | cons h0 h1 =>
      obtain ⟨vs, v, rfl, a, b⟩ := ih h1
      exact ⟨_ :: vs, v, rfl, .cons h0 a, b⟩
theorem CA.pop {l : Addr} {us : List Value} {u : Value} {n' : Led} (U : Swap l (LstO (us ++ [u])) (LstO us) n n') (hsz : us.length ≤ 1000000) (h : Φ u g n') : CA c m g n (.builtin "list.pop") [.ref l] Φ Ψ := fun vs' hv s Q E S hQ hE => by
  cases hv with | cons h1 h2 =>
    cases h2; obtain rfl := h1.ref
    obtain ⟨o, ho, its, k, rfl, hI⟩ := S.sits.ld _ U.mem
    obtain ⟨vs, v, e, hvs, hv⟩ := hI.split
    have ei : its = (vs ++ [v]).toArray := by rw [← e, Array.toArray_toList]
    subst ei
    have hlen := hvs.length
    have hk : (vs ++ [v]).toArray.size - 1 = vs.length := by rw [List.size_toArray, List.length_append]; rfl
    have hy : (vs ++ [v]).toArray[(vs ++ [v]).toArray.size - 1]? = some v := by rw [hk]; simp
    have hz : (vs ++ [v]).toArray.size ≤ sizeLine := by rw [List.size_toArray, List.length_append, sizeLine_eq]; show vs.length + 1 ≤ _; omega
    refine call_meets PySem.F.slot_list_pop ⟨_, ho, rfl⟩ PySem.F.entry_list_pop (PySem.F.args_list_pop_1 _) (PySem.MeetsSeq.list_pop_last l _ k v hy hz) ⟨ho, ?_⟩
    have e2 : (vs ++ [v]).toArray.eraseIdxIfInBounds ((vs ++ [v]).toArray.size - 1) = vs.toArray := by
      rw [hk, kl_erase, List.append_nil]
    have ho' : (s.heap.update l (Obj.mapSeq fun xs => xs.eraseIdxIfInBounds ((vs ++ [v]).toArray.size - 1))).get? l = some (Obj.mapSeq (fun xs => xs.eraseIdxIfInBounds ((vs ++ [v]).toArray.size - 1)) (listOf (vs ++ [v]).toArray k)) := Heap.get?_update_self _ ho (by rfl)
    refine hQ v g n' _ _ ⟨u, hv, h⟩ (Le.rfl' g) (S.swap U (Heap.SameBut.update ..) ho' ⟨_, _, rfl, ?_⟩)
    show AllIs us ((vs ++ [v]).toArray.eraseIdxIfInBounds ((vs ++ [v]).toArray.size - 1)).toList
    rw [e2]; simpa using hvs
def methOK (K : Frag) (C : Addr) (name : Str) (f : Addr) : Bool := plainGet K C name && findIn K (.ref C) name == some (some (.ref f)) && typeIn K (.ref f) == some (.type "function")
theorem DicM.miss {fs : List (Str × Value)} {o : Obj} {x : Str} (h : DicM fs o) (hx : x ∉ fs.map (·.1)) : lookIn x o = some none := by
  obtain ⟨es, ep, mA, hd, hk, _, hf, hw, _⟩ := h
  have h0 : nsFind es x = none := by
    rw [hf]
    cases q : mA x with
    | none => rfl
    | some v => exact absurd (hw x (by rw [q]; intro z; cases z)) hx
  unfold lookIn
  rw [hd]
  dsimp only
  unfold nsFind findBy at h0
  rw [← Array.find?_toList] at h0
  cases q : es.toList.find? (fun e => e.key.isStr x) with
  | none =>
    dsimp only
    rw [if_neg]
    intro z
    obtain ⟨e, he, hr⟩ := List.any_eq_true.mp z
    obtain ⟨y, t, ek⟩ := hk e (Array.mem_toList_iff.mp he)
    unfold DictEntry.refKey at hr
    rw [ek] at hr
    cases hr
  | some e => rw [q] at h0; cases h0
abbrev kMI (c : Cx) (m : Loc) (C f : Addr) (name : Str) (Φ : Post) (Ψ : XPost) : Post := fun v g1 n1 => ∃ a fs, v = .ref a ∧ InstL g1 n1 a C fs ∧ name ∉ fs.map (·.1) ∧ CA c m g1 n1 (.ref f) [.ref a] Φ Ψ
theorem EX.methI {o : Expr} {name : Str} {apos pos : Pos} {pl : Sem Bool} (C f : Addr) {of : Obj} {fd : FuncData} (hok : methOK (KK c.w) C name f = true) (hf : (KK c.w).lookup f = some of) (hfd : of.data = .func fd)
    (h : EX c m g n o (kMI c m C f name Φ Ψ) Ψ)
    (hc : eval (.Call (.Attribute o name apos) [] [] pos) c.env = (do
      let ov ← eval o c.env
      standAt apos.atName
      let (f, first) ← holding [ov] (getMethod ov name pl)
      callWith pos f first (backTo pos (starEach [] c.env)) []) := by rfl) : EX c m g n (.Call (.Attribute o name apos) [] [] pos) Φ Ψ := fun s Q E S hQ hE => by
  refine MethodCall_ (pl := pl) (h s _ E S (fun v g1 n1 h1 tk z le S1 => ?_) hE) hc
  obtain ⟨u, hu, a, fs, rfl, hi, hnm, k⟩ := z
  obtain rfl := hu.ref
  obtain ⟨d, od, I, hD⟩ := hi.at S1
  unfold methOK at hok
  simp only [Bool.and_eq_true, beq_iff_eq] at hok
  obtain ⟨⟨k1, k2⟩, k3⟩ := hok
  refine method_fn (s := { s with heap := h1, toks := tk }) S1.K I (plainGet_of k1).1 (plainGet_of k1).2 k2 k3 (by unfold shadowIn; dsimp only; rw [hD.miss hnm]; rfl) (callWith_meth0 hfd (S1.K _ _ hf) ?_)
  exact k [.ref a] (.cons rfl .nil) { s with heap := h1, toks := tk } Q E S1 (fun a' g' n' h' tk' z le' S' => hQ a' g' n' h' tk' z (le.trans le') S') fun x g' n' h' tk' z le' S' X => hE x g' n' h' tk' z (le.trans le') S' X
def ItT (l : Addr) (i : Nat) (o : Obj) : Prop := o.cls = .type "tuple_iterator" ∧ o.data = .fields #[.ref l, .int i 0]
theorem Iter.tup {x : Str} {px : Pos} {l : Addr} {us : List Value} {K : KI} (hl : Tup g l us) (h : ∀ it, K (fun i => [(it, ItT l i)]) us.length (fun i u _ => us[i]? = some u) (fun g n => Tup g l us) g n) : Iter c m g n (.Name x px) (.ref l) K Ψ := fun v' hv s Q E S hQ hE => by
  obtain rfl := hv.ref
  obtain ⟨its, hT, _⟩ := hl.isTup S
  have hnew := S.keep.old (Heap.get?_fresh s.heap)
  refine wpAny_pyIter_tuple hT (hQ _ g _ _ s.toks ⟨s.heap.objs.size, fun i => [(s.heap.objs.size, ItT l i)], us.length, _, _, n, rfl, rfl, fun c m g n s Q E S hQ => ?_, fun c hc0 i m g n n' hi hI' hsub Ψ => ⟨fun hlt => ?_, fun e => ?_⟩, h _⟩ (Le.rfl' g) (S.newOwn { cls := .type "tuple_iterator", data := .fields #[.ref l, .int 0 0] } ⟨rfl, rfl⟩))
  · obtain ⟨o, ho, hc, hd⟩ := S.sits.ld _ (.head _)
    refine wpAny_pyIter_slot (T := "tuple_iterator") ⟨o, ho, hc⟩ PySem.F.slot_tuple_iterator_iter (wpAny_call_entry PySem.F.slot_tuple_iterator_iter ⟨o, ho, hc⟩ PySem.F.entry_tuple_iterator_iter ?_ (PySem.F.args_tuple_iterator_iter_1 _))
    show wpAny _ _ (ret (.ref _)) _ _ s
    exact wpAny_pure ⟨_, rfl, "tuple_iterator", _, ⟨o, ho, hc⟩, PySem.F.slot_tuple_iterator_next.lookup, hQ⟩
  · intro s Q E S hQ hE
    obtain ⟨o, ho, hc, hd⟩ := S.sits.ld _ (.head _)
    obtain ⟨its, hT, hA⟩ := hI'.isTup S
    obtain ⟨v, e1, e2⟩ := hA.get (List.getElem?_eq_getElem hlt)
    refine wpAny_pyNext_tuple_item ⟨o, ho, hc, hd⟩ hT (by rw [← Array.getElem?_toList]; exact e1) fun h' hit hs => ?_
    obtain ⟨o', ho', hc', hd'⟩ := hit
    exact hQ _ g _ h' s.toks ⟨us[i], v, rfl, e2, List.getElem?_eq_getElem hlt, DO.pure ⟨rfl, rfl⟩⟩ (Le.rfl' g) (S.swap .head hs ho' ⟨hc', hd'⟩)
  · intro s Q E S hQ hE
    obtain ⟨o, ho, hc, hd⟩ := S.sits.ld _ (.head _)
    obtain ⟨its, hT, hA⟩ := hI'.isTup S
    have e0 : us.length = its.size := by rw [hA.length]; simp
    refine wpAny_pyNext_tuple_end S.hh ⟨o, ho, hc, hd⟩ hT (by rw [Array.getElem?_eq_none]; omega) fun h' hx => ?_
    exact hQ none g n h' s.toks ⟨rfl, rfl⟩ (Le.rfl' g) (S.lose (by rw [hc0]; exact hnew) hx)
section
variable {w : World} {h₀ : Heap} {P : Nat → Addr} {T : Nat → Value} {τ : Nat → Tag} {a q : Nat} {x : Value} {l f fs : Addr} {k ks : Nat} {key i j : Int} {tk tu : Tok} {p : Nat → Bool}
theorem one_class {v : Value} : FT w h₀ (.ref 303) [.int i tk, v] g 1 (fun v _ => v = .bool false) := by
  refine' FN.of (ps := ["one", "other"]) (rest := ["word"]) (ds := []) ?ho ?hcd ?hb ?hl ?hn ?hnd ?hc ?hco ?hg ?hk ?h
  walk_at "M.def"
  walk_at "M.go"
  intro t g1 le1 ht
  refine Iter.tup ht fun it => ?_
  refine ⟨fun i' m1 g1 n1 => Tup g1 t [.ref 82, .ref 125, .ref 146, .ref 104, .ref 181] ∧ n1 = [] ∧ ∃ wd, m1 = [(("one" : Str), some (.int i tk)), (("other" : Str), some v), (("word" : Str), wd)], ⟨ht, rfl, _, rfl⟩, fun _ _ _ _ h => h.1, ?_, ?_⟩
  · rintro i' u m1 g3 g4 n1 le3 hi ⟨ht3, rfl, wd, rfl⟩ le4 hu
    refine AG.name (by walk_at "M.put") ?_
    have hi : i' < 5 := hi
    have : i' = 0 ∨ i' = 1 ∨ i' = 2 ∨ i' = 3 ∨ i' = 4 := lt5 hi
    rcases this with rfl | rfl | rfl | rfl | rfl <;> (cases hu; walk_at "M.go"; exact ⟨_, rfl, ht3.le le4, rfl, _, rfl⟩)
  · rintro m1 g3 g4 n1 le3 ⟨ht3, rfl, wd, rfl⟩ le4
    walk_at "M.go"
    exact ⟨rfl, rfl⟩
theorem readsOK_turn (w : World) : readsOK (KK w) 334 "turn" = true := by kernel_rfl
theorem readsOK_left (w : World) : readsOK (KK w) 334 "left" = true := by kernel_rfl
theorem readsOK_right (w : World) : readsOK (KK w) 334 "right" = true := by kernel_rfl
theorem readsOK_deep (w : World) : readsOK (KK w) 334 "deep" = true := by kernel_rfl
theorem methOK_round (w : World) : methOK (KK w) 334 "is_round" 324 = true := by kernel_rfl
theorem is_round_fn {t : Addr} {u v dp : Value} (hx : InstL g n t 334 (taskF u v dp)) : FN w h₀ (.ref 324) [.ref t] g n 1 (fun v _ n' => v = .bool false ∧ n' = n) (fun _ _ => False) := by
  refine' FN.of (ps := ["self"]) (rest := []) (ds := []) ?ho ?hcd ?hb ?hl ?hn ?hnd ?hc ?hco ?hg ?hk ?h
  walk_at "M.def"
  walk_at "M.go"
  refine AT.inst hx (v := .int 0 0) rfl (readsOK_turn _) ?_
  walk_at "M.go"
  rw [decide_eq_false (by walk_at "M.om")]
  walk_at "M.go"
  exact ⟨rfl, rfl⟩
end
end Mine
local macro_rules | `(tactic| walk_at "M.x") => `(tactic| ((with_reducible refine (?_ : Mine.SX _ _ _ _ (Stmt.Assign [Expr.Name "task" _] _ _ :: _) _ _)); refine Mine.SX.assignC (by walk_at "M.lk") (by assumption) ?_))
local macro_rules | `(tactic| walk_at "M.e2") => `(tactic| ((with_reducible refine (?_ : Mine.EX _ _ _ _ (Expr.Call (Expr.Attribute _ "pop" _) [] [] _) _ _)); refine Mine.EX.meth0 PySem.F.slot_list_pop PySem.F.type_list_pop ?_))
local macro_rules | `(tactic| walk_at "M.ca") => `(tactic| first
  | ((with_reducible refine (?_ : Mine.CA _ _ _ _ (Value.ref 303) [Value.int _ _, _] _ _)); refine Mine.CA.fte Mine.one_class (by walk_at "M.om") ?_; intro _ _))
namespace Mine
variable {c : Cx} {m : Loc} {g : View} {n : Led} {Φ : Post} {Ψ : XPost} {F : FPost}
section
variable {w : World} {h₀ : Heap} {P : Nat → Addr} {T : Nat → Value} {τ : Nat → Tag} {a q : Nat} {x : Value} {l f fs : Addr} {k ks : Nat} {key i j : Int} {tk tu : Tok} {p : Nat → Bool}
theorem ex_1 {f : Addr} {o : Obj} {fd : FuncData} {K : Frag} (h : K.lookup f = some o) (hd : o.data = .func fd) : ∃ o fd, K.lookup f = some o ∧ o.data = .func fd := ⟨o, fd, h, hd⟩
theorem round_ex (w : World) : ∃ o fd, (KK w).lookup 324 = some o ∧ o.data = .func fd := by
  refine' ex_1 ?h ?hd
  (case h => walk_at "M.is"); (case hd => rfl)
theorem equal_by_fn {v y : Value} {b : Bool} (hh : handedIn v = true) (hE : ∀ g', Le g g' → FT w h₀ (.ref 284) [.int key tk, v] g' 2 (fun r _ => r = .bool b)) : FN w h₀ (.ref 343) [.int key tk, v, y] g [] 4 (fun r _ _ => r = .bool b) (fun _ _ => False) := by
  obtain ⟨of, fd, hof, hfd⟩ := round_ex w
  refine' FN.ofC (ps := ["one", "other", "strings_alike"]) (rest := ["waiting", "steps", "left", "right", "parts"]) (lps := [(("one" : Str), .int key tk), (("other" : Str), v), (("strings_alike" : Str), y)]) ["task"] ?ho ?hcd ?hb ?hl ?hlps ?hn ?hps ?hrest ?hnd ?hcn ?hcn' ?hco ?hg ?hk ?h
  walk_at "M.entc"
  intro c g1 ca hw hh0 hsc hk' hn0 hcomp hcd hnm G hle hcells hcn
  subst hw hh0
  walk_at "M.ds"
  have hca := hcn "task" (.head _)
  walk_at "M.go"
  refine EX.lst ?_
  walk_at "M.go"
  refine CA.task rfl hh rfl (by walk_at "M.om") fun t d g2 le2 ht hd hgt => ?_
  walk_at "M.go"
  intro lw hlw
  walk_at "M.go"
  refine SX.while (fun k m1 g1 n1 => ∃ (st : Int) (rl rr : Option Value), m1 = [(("one" : Str), some (.int key tk)), (("other" : Str), some v), (("strings_alike" : Str), some y), (("waiting" : Str), some (.ref lw)), (("steps" : Str), some (.int st 0)), (("left" : Str), rl), (("right" : Str), rr), (("parts" : Str), none)] ∧
      (k = 1 → st = 0 ∧ n1 = [(lw, LstO [.ref t]), (d, DicM (taskF (.int key tk) v (.int 0 0))), (ca "task", CelN)]) ∧ (k = 0 → b = true ∧ n1 = [(lw, LstO []), (d, DicM (taskF (.int key tk) v (.int 0 0))), (ca "task", CelV (.ref t))]) ∧ k < 2) 1 ⟨0, none, none, rfl, fun _ => ⟨rfl, rfl⟩, (fun h => by cases h), by walk_at "M.om"⟩ ?_
  rintro k m1 g3 n1 le3 ⟨st, rl, rr, rfl, z1, z0, hk2⟩
  rcases Nat.eq_zero_or_pos k with rfl | hk0
  · obtain ⟨rfl, rfl⟩ := z0 rfl
    walk_at "M.go"
    rw [decide_eq_false (by simp)]
    walk_at "M.go"
    rfl
  · obtain rfl : k = 1 := by omega
    obtain ⟨rfl, rfl⟩ := z1 rfl
    have htt := le3 _ _ ht
    walk_at "M.go"
    rw [decide_eq_true (by simp)]
    walk_at "M.go"
    refine CA.pop (us := []) .head (by simp) ?_
    refine ⟨_, _, .tail (.tail .head), CelN.cell, ?_⟩
    have hi : InstL g3 [(lw, LstO []), (d, DicM (taskF (.int key tk) v (.int 0 0))), (ca "task", CelV (.ref t))] t 334 (taskF (.int key tk) v (.int 0 0)) := ⟨d, htt, .inr (.tail _ (.head _))⟩
    walk_at "M.go"
    refine AT.inst hi (v := .int key tk) rfl (readsOK_left _) ?_
    walk_at "M.go"
    refine AT.inst hi (v := v) rfl (readsOK_right _) ?_
    walk_at "M.go"
    rw [decide_eq_false (by walk_at "M.om")]
    walk_at "M.go"
    refine EX.methI 334 324 (methOK_round _) hof hfd ?_
    walk_at "M.go"
    refine ⟨t, _, rfl, hi, (show ("is_round" : Str) ∉ [("left" : Str), "right", "deep", "turn", "slow_left", "slow_right"] from by decide +kernel), ?_⟩
    refine CA.fnN (is_round_fn hi) (by walk_at "M.om") (fun r g4 n4 le4 _ z => ?_) (fun _ _ _ z => z.elim)
    obtain ⟨rfl, rfl⟩ := z
    have hi4 := hi.le le4 (fun _ h => h)
    walk_at "M.go"
    refine AT.inst hi4 (v := .int 0 0) rfl (readsOK_deep _) ?_
    walk_at "M.go"
    rw [decide_eq_false (by walk_at "M.om")]
    walk_at "M.go"
    have le04 := hle.trans (le2.trans (le3.trans le4))
    refine CA.fte (hE _ le04) (by walk_at "M.om") fun g5 le5 => ?_
    cases b with
    | true =>
      walk_at "M.go"
      exact ⟨0, by walk_at "M.om", _, _, _, rfl, (fun h => by cases h), fun _ => ⟨rfl, rfl⟩, by walk_at "M.om"⟩
    | false =>
      walk_at "M.go"
      rfl
theorem equal_fn {v : Value} {b : Bool} (hh : handedIn v = true) (hE : ∀ g', Le g g' → FT w h₀ (.ref 284) [.int key tk, v] g' 2 (fun r _ => r = .bool b)) : FT w h₀ (.ref 357) [.int key tk, v] g 5 (fun r _ => r = .bool b) := by
  refine FT.of ?_
  refine' FN.of (ps := ["one", "other"]) (rest := []) (ds := []) ?ho ?hcd ?hb ?hl ?hn ?hnd ?hc ?hco ?hg ?hk ?h
  walk_at "M.def"
  walk_at "M.go"
  refine CA.fn (equal_by_fn hh hE) (by walk_at "M.om") (fun v g' n' le fr z => ?_) (fun _ _ _ z => z.elim)
  subst z
  walk_at "M.go"
  rfl
theorem Thg.handed {v : Value} {t : Tag} (h : Thg g v t) : handedIn v = true := by
  cases t with
  | num z => rw [show v = _ from h]; rfl
  | pair x y => obtain ⟨a, e, _⟩ := h; rw [e]; rfl
theorem equalS (hT : ∀ i, Thg g (T i) (τ i)) : Same w h₀ g 357 key T 5 (fun i => pNum key (τ i)) := by
  intro g' le i tk
  exact equal_fn ((hT i).handed) fun g'' le' => eqS hT g'' (le.trans le') i tk
theorem equalI : SameI w h₀ g 357 key 5 := fun g' _ j tk tk' => equal_fn rfl fun g'' le' => eq_ii
end
end Mine

namespace Mine
variable {c : Cx} {m : Loc} {g : View} {n : Led} {Φ : Post} {Ψ : XPost} {F : FPost}
theorem FN.up {w : World} {h₀ : Heap} {f : Value} {args : List Value} {k k' : Nat} (F : FN w h₀ f args g n k Φ Ψ) (h : k ≤ k') : FN w h₀ f args g n k' Φ Ψ := by
  intro A outer s R vs G hb hh hA hr
  exact F A outer s R vs G hb hh hA (hr.le h)
theorem FN.imp {w : World} {h₀ : Heap} {f : Value} {args : List Value} {k : Nat} {Φ' : Post} {Ψ' : XPost} (F : FN w h₀ f args g n k Φ Ψ) (hΦ : ∀ v g' n', Le g g' → Φ v g' n' → Φ' v g' n') (hΨ : ∀ g' n', Le g g' → Ψ g' n' → Ψ' g' n') : FN w h₀ f args g n k Φ' Ψ' := by
  intro A outer s R vs G hb hh hA hr hs hf hd hv hQ hE
  exact F A outer s R vs G hb hh hA hr hs hf hd hv (fun v v' g' n' h' tk z hv' e => hQ v v' g' n' h' tk (hΦ v g' n' e.le z) hv' e) fun x g' n' h' tk z e X => hE x g' n' h' tk (hΨ g' n' e.le z) e X
theorem fnd_eq (w : World) : ∃ o fd, (KK w).lookup 284 = some o ∧ o.data = .func fd := by
  refine' ex_1 ?h ?hd
  (case h => walk_at "M.is"); (case hd => rfl)
theorem fnd_eql (w : World) : ∃ o fd, (KK w).lookup 291 = some o ∧ o.data = .func fd := by
  refine' ex_1 ?h ?hd
  (case h => walk_at "M.is"); (case hd => rfl)
theorem fnd_equal (w : World) : ∃ o fd, (KK w).lookup 357 = some o ∧ o.data = .func fd := by
  refine' ex_1 ?h ?hd
  (case h => walk_at "M.is"); (case hd => rfl)
theorem fv_of {w : World} {h₀ : Heap} {f : Addr} (G : G0 w h₀) (hb : ∀ a o, h₀.get? a = some o → g a = some o) (h : ∃ o fd, (KK w).lookup f = some o ∧ o.data = .func fd) : FV g f :=
  let ⟨o, fd, e, d⟩ := h; ⟨o, fd, hb _ _ (G.K _ _ e), d⟩
section
variable {w : World} {h₀ : Heap} {P : Nat → Addr} {T : Nat → Value} {τ : Nat → Tag} {a q : Nat} {x : Value} {l f fs : Addr} {k ks : Nat} {key : Int} {tk : Tok} {p : Nat → Bool} {t : Option Addr}
abbrev LookΦ (D : Addr) (ln co : Nat) (qn : Str) (N : Nat) (p : Nat → Bool) (V : Nat → Value) : Post := fun v g' n' => ∃ c' i, n' = [(D, TabP ln co (some c'))] ∧ CodeG g' c' qn ∧ i < N ∧ p i = true ∧ (∀ j, j < i → p j = false) ∧ v = V i
abbrev LookΨ (D : Addr) (ln co : Nat) (qn : Str) (N : Nat) (p : Nat → Bool) : XPost := fun g' n' => ∃ c', n' = [(D, TabP ln co (some c'))] ∧ CodeG g' c' qn ∧ ∀ j, j < N → p j = false
theorem mem_fn (fn : Addr) (hfn : fn = 427 ∨ fn = 434 ∨ fn = 441) (hR : Ring g P T a q) (hT : ∀ i, Thg g (T i) (τ i)) (hL : Lst g l [.int key tk, .ref (P 0)]) (hpp : ∀ i j, P i = P j → τ i = τ j) (ht : ∀ c', t = some c' → CodeG g c' qF) :
    FN w h₀ (.ref fn) [x, .ref l] g [(443, TabP 242 29 t)] 9 (LookΦ 443 242 29 qF (a + q) (fun i => pNum key (τ i)) (fun i => .ref (P i))) (LookΨ 443 242 29 qF (a + q) (fun i => pNum key (τ i))) := by
  rcases hfn with rfl | rfl | rfl
  · refine' FN.of (ps := ["world", "args"]) (rest := []) (ds := []) ?ho ?hcd ?hb ?hl ?hn ?hnd ?hc ?hco ?hg ?hk ?h
    (walk_at "M.ent"; intro c hw hh hsc hk' hn0 hcomp hcl hcd hnm G hb; subst hw hh; walk_at "M.ds")
    walk_at "M.go"
    refine CA.fnN ((rest_from_ring hR (fv_of G hb (fnd_eq _)) (eqS hT) (by omega) (fun i j e => by rw [hpp i j e]) ht)) (by omega) (fun v g' n' le _ z => z) (fun g' n' le z => z)
  · refine' FN.of (ps := ["world", "args"]) (rest := []) (ds := []) ?ho ?hcd ?hb ?hl ?hn ?hnd ?hc ?hco ?hg ?hk ?h
    (walk_at "M.ent"; intro c hw hh hsc hk' hn0 hcomp hcl hcd hnm G hb; subst hw hh; walk_at "M.ds")
    walk_at "M.go"
    refine CA.fnN ((rest_from_ring hR (fv_of G hb (fnd_eql _)) (eqlS hT) (by omega) (fun i j e => by rw [hpp i j e]) ht)) (by omega) (fun v g' n' le _ z => z) (fun g' n' le z => z)
  · refine' FN.of (ps := ["world", "args"]) (rest := []) (ds := []) ?ho ?hcd ?hb ?hl ?hn ?hnd ?hc ?hco ?hg ?hk ?h
    (walk_at "M.ent"; intro c hw hh hsc hk' hn0 hcomp hcl hcd hnm G hb; subst hw hh; walk_at "M.ds")
    walk_at "M.go"
    refine CA.fnN ((rest_from_ring hR (fv_of G hb (fnd_equal _)) (equalS hT) (by omega) (fun i j e => by rw [hpp i j e]) ht)) (by omega) (fun v g' n' le _ z => z) (fun g' n' le z => z)
theorem ass_fn (fn : Addr) (b : Bool) (hfn : (b = false ∧ (fn = 488 ∨ fn = 495)) ∨ (b = true ∧ (fn = 502 ∨ fn = 509))) (hR : Ring g P T a q) (hT : ∀ i, Thg g (T i) (τ i)) (hL : Lst g l [.int key tk, .ref (P 0)]) (hpp : ∀ i j, P i = P j → τ i = τ j) (ht : ∀ c', t = some c' → CodeG g c' qW) :
    FN w h₀ (.ref fn) [x, .ref l] g [(476, TabP 276 30 t)] 9 (LookΦ 476 276 30 qW (a + q) (fun i => pHalf b key (τ i)) T) (LookΨ 476 276 30 qW (a + q) (fun i => pHalf b key (τ i))) := by
  rcases hfn with ⟨rfl, rfl | rfl⟩ | ⟨rfl, rfl | rfl⟩
  · refine' FN.of (ps := ["world", "args"]) (rest := []) (ds := []) ?ho ?hcd ?hb ?hl ?hn ?hnd ?hc ?hco ?hg ?hk ?h
    (walk_at "M.ent"; intro c hw hh hsc hk' hn0 hcomp hcl hcd hnm G hb; subst hw hh; walk_at "M.ds")
    walk_at "M.go"
    refine CA.fnN ((pair_with_ring hR hT (fv_of G hb (fnd_eq _)) eqI (by omega) (fun i j e => by rw [hpp i j e]) ht)) (by omega) (fun v g' n' le _ z => z) (fun g' n' le z => z)
  · refine' FN.of (ps := ["world", "args"]) (rest := []) (ds := []) ?ho ?hcd ?hb ?hl ?hn ?hnd ?hc ?hco ?hg ?hk ?h
    (walk_at "M.ent"; intro c hw hh hsc hk' hn0 hcomp hcl hcd hnm G hb; subst hw hh; walk_at "M.ds")
    walk_at "M.go"
    refine CA.fnN ((pair_with_ring hR hT (fv_of G hb (fnd_equal _)) equalI (by omega) (fun i j e => by rw [hpp i j e]) ht)) (by omega) (fun v g' n' le _ z => z) (fun g' n' le z => z)
  · refine' FN.of (ps := ["world", "args"]) (rest := []) (ds := []) ?ho ?hcd ?hb ?hl ?hn ?hnd ?hc ?hco ?hg ?hk ?h
    (walk_at "M.ent"; intro c hw hh hsc hk' hn0 hcomp hcl hcd hnm G hb; subst hw hh; walk_at "M.ds")
    walk_at "M.go"
    refine CA.fnN ((pair_with_ring hR hT (fv_of G hb (fnd_eq _)) eqI (by omega) (fun i j e => by rw [hpp i j e]) ht)) (by omega) (fun v g' n' le _ z => z) (fun g' n' le z => z)
  · refine' FN.of (ps := ["world", "args"]) (rest := []) (ds := []) ?ho ?hcd ?hb ?hl ?hn ?hnd ?hc ?hco ?hg ?hk ?h
    (walk_at "M.ent"; intro c hw hh hsc hk' hn0 hcomp hcl hcd hnm G hb; subst hw hh; walk_at "M.ds")
    walk_at "M.go"
    refine CA.fnN ((pair_with_ring hR hT (fv_of G hb (fnd_equal _)) equalI (by omega) (fun i j e => by rw [hpp i j e]) ht)) (by omega) (fun v g' n' le _ z => z) (fun g' n' le z => z)
end
end Mine

namespace Mine
variable {c : Cx} {m : Loc} {g : View} {n : Led} {Φ : Post} {Ψ : XPost} {F : FPost}
def readsX (K : Frag) (C : Addr) (x : Str) : Bool := findIn K (.ref C) "__getattribute__" == some (some (.builtin "BaseException.__getattribute__")) && findIn K (.ref C) "__getattr__" == some none && hasDictIn K C && (match findIn K (.ref C) x with | some attr => noGet K attr | none => false)
theorem readsX_symbol (w : World) : readsX (KK w) SIG "symbol" = true := by kernel_rfl
theorem exc_attr {prog : Program} {w : World} {A : Around} {E : Value → Shared → Prop} {h : Heap} {gs : Array GenState} {dr : Drawn} {t : Nat} {os : OsState} {K : Frag} {x C N : Addr} {ox od : Obj} {name nm q : Str} {v : Value} {expr : Bool} {Q : Value → Shared → Prop} {bs bm : List Value} {hdct : Bool} {sn : List Str} {sub : List Value} {ab : Bool} {col : Option Bool} {dd : Option Addr} {k0 k1 k2 k3 k5 : Option Value} {newId : String}
    (X : K.In h) (I : InstAt h x ox C (some od)) (hga : findIn K (.ref C) "__getattribute__" = some (some (.builtin "BaseException.__getattribute__"))) (hgt : findIn K (.ref C) "__getattr__" = some none) (hf : findObj K C (some od) name = some (.value v)) (hh : handedIn v = true)
    (hC : h.get? C = some (excClassObj nm q C N bs bm hdct sn sub ab col dd k0 k1 k2 k3 k5 newId)) (hbm : bm.contains (.type "BaseException") = true) (hq : Q v ⟨h, gs, dr, t + 1, os⟩) :
    wpAny (model prog w) A (getAttr (.ref x) name expr) Q E ⟨h, gs, dr, t, os⟩ := by
  have hx := I.at_
  have hc := I.cls
  have hcB : (Value.ref C :: bm).contains (.type "BaseException") = true := by rw [List.contains_cons, hbm, Bool.or_true]
  have f3 := PySem.F.attr_Exception.ga.bind (.ref x)
  have hx0 : (expr && onTheHeap (Value.builtin "BaseException.__getattribute__")) = false := by cases expr <;> rfl
  have hx2 : (Value.builtin "BaseException.__getattribute__" == Value.builtin "object.__getattribute__") = false := by decide +kernel
  have hx1 : (onTheHeap (Value.ref C) && Value.builtin "BaseException.__getattribute__" == Value.builtin "object.__getattribute__") = false := by rw [hx2]; rfl
  have L1 : ∀ M : Model, Looks M h (typeLookup (.ref C) "__getattribute__") (some (.builtin "BaseException.__getattribute__")) := fun M => looks_findIn X hga
  have L2 : ∀ M : Model, Looks M h (typeLookup (.ref C) "__getattr__") none := fun M => looks_findIn X hgt
  unfold getAttr
  repeat (any_goals (first | assumption | (with_reducible refine wpAny_loadPart_at hx ?_; rw [hc]) | with_reducible refine (L1 _).at ?_ | with_reducible refine (L2 _).at ?_ | wp_step))
  have chk : ∀ (nameV : Value) (A : Around) (tk : Nat) (Q : Unit → Shared → Prop) (E : Value → Shared → Prop), Q () ⟨h, gs, dr, tk, os⟩ → wpAny (model prog w) A (checkBuiltinCall "BaseException.__getattribute__" ⟨[.ref x, nameV], []⟩) Q E ⟨h, gs, dr, tk, os⟩ := by
    intro nameV A tk Q E hq
    have hk : builtinKind "BaseException.__getattribute__" = some .slot := by decide +kernel
    have hsplit : splitId "BaseException.__getattribute__" = some ("BaseException", "__getattribute__") := by decide +kernel
    have ha := PySem.F.args_bexc_ga (.ref x) nameV
    simp only [checkBuiltinCall, hk, hsplit]
    refine wpAny_bind ?_
    unfold isInstance
    repeat (first | (with_reducible refine wpAny_loadPart_at hx ?_; rw [hc]) | (with_reducible refine wpAny_isSubtype_exc hC ?_; rw [hcB]) | wp_step)
    exact hq
  refine codeAny_call_builtin PySem.F.attr_Exception.ga.plain PySem.F.entry_bexc_ga (chk _ _ _ _ _ ?_)
  unfold Builtin.«object.__getattribute__»
  have L3 := fun M : Model => looks_find (M := M) X I hf
  repeat (any_goals (first | assumption | (with_reducible refine wpAny_loadPart_at hx ?_; rw [hc]) | with_reducible refine (L3 _).at ?_ | wp_step))
  show wpAny _ _ (handedOut v) _ _ _
  rw [handedOut_of hh]; exact wpAny_pure hq
theorem glob_signal (w : World) : nsIn (KK w) mainGlobals "LispSignal" = some (some (.ref 38)) := by kernel_rfl
abbrev nones (m : Loc) : Loc := m.map fun p => (p.1, none)
theorem nones_fst (m : Loc) : (nones m).map (·.1) = m.map (·.1) := by rw [List.map_map]; rfl
theorem St.blur {h h' : Heap} {mm : Str → Option Value} (S : St c m g n h) (hn : h'.Ns c.L mm) (hs : Heap.SameBut c.L h h') : St c (nones m) g n h' := by
  have e1 : ∀ b o, b ≠ c.L → h.get? b = some o → h'.get? b = some o := fun b o hb e => (hs.2 b hb).trans e
  refine { S with
    sits := ⟨fun b o e => e1 b o (fun q => by rw [q, S.Lg] at e; cases e) (S.sits.vw b o e), fun p hp => ?_, S.sits.off, S.sits.nd⟩
    loc := ⟨_, hn, fun y u q => by obtain ⟨p, _, e⟩ := List.mem_map.mp q; cases e⟩
    mnd := by rw [nones_fst]; exact S.mnd
    mloc := by rw [nones_fst]; exact S.mloc
    fr := ?_
    keep := ⟨fun b o e => ?_, fun b o e hb => ?_⟩
    pins := fun p hp => let ⟨x, y⟩ := S.pins p hp; ⟨x.sameBut hs y.2, y⟩ }
  · obtain ⟨o, e, q⟩ := S.sits.ld p hp
    exact ⟨o, e1 _ o (fun z => S.Ln (z ▸ List.mem_map.mpr ⟨p, hp, rfl⟩)) e, q⟩
  · obtain ⟨oL', ho', hd'⟩ : ∃ o, h'.get? c.L = some o ∧ ∃ es ep, o.data = .dict es ep := by obtain ⟨o, es, ep, q, d, _⟩ := hn; exact ⟨o, q, es, ep, d⟩
    have go : ∀ l : List Env, h.FunFrames emptyH l → h'.FunFrames emptyH l := by
      intro l
      induction l with
      | nil => intro _; trivial
      | cons env r ih =>
        rintro ⟨hk, ⟨L, o, hf, hn0, ho2, hd2⟩, hr⟩
        by_cases q : L = c.L
        · subst q; obtain ⟨es, ep, hd'⟩ := hd'; exact ⟨hk, ⟨_, oL', hf, hn0, ho', fun vs z => by rw [hd'] at z; cases z⟩, ih hr⟩
        · exact ⟨hk, ⟨L, o, hf, hn0, e1 L o q ho2, hd2⟩, ih hr⟩
    exact go _ S.fr
  · obtain ⟨o1, q1⟩ := S.keep.1 b o e
    by_cases q : b = c.L
    · obtain ⟨o, _, _, z, _⟩ := hn; exact ⟨o, q ▸ z⟩
    · exact ⟨o1, e1 b o1 q q1⟩
  · have hne : b ≠ c.L := fun q => by rw [q, S.Lnew] at e; cases e
    obtain ⟨a1, sl, a2⟩ := S.keep.2 b o e hb
    exact ⟨fun hf => e1 b o hne (a1 hf), sl, e1 b _ hne a2⟩
def sigOK (w : World) : Prop := ∃ nm q N bs bm hdct sn sub ab col dd k0 k1 k2 k3 k5 newId, (KK w).lookup SIG = some (excClassObj nm q SIG N bs bm hdct sn sub ab col dd k0 k1 k2 k3 k5 newId) ∧ bm.contains (.type "BaseException") = true
theorem sigOK_of {w : World} {nm q : Str} {N : Addr} {bs bm : List Value} {hdct : Bool} {sn : List Str} {sub : List Value} {ab : Bool} {col : Option Bool} {dd : Option Addr} {k0 k1 k2 k3 k5 : Option Value} {newId : String}
    (h : (KK w).lookup SIG = some (excClassObj nm q SIG N bs bm hdct sn sub ab col dd k0 k1 k2 k3 k5 newId)) (k : bm.contains (.type "BaseException") = true) : sigOK w := ⟨nm, q, N, bs, bm, hdct, sn, sub, ab, col, dd, k0, k1, k2, k3, k5, newId, h, k⟩
theorem sigOK_w (w : World) : sigOK w := by
  refine' sigOK_of ?h ?k
  (case h => walk_at "M.is"); (case k => decide +kernel)
theorem sigOK.elim {w : World} {G : Prop} (h : sigOK w) (k : ∀ nm q N bs bm hdct sn sub ab col dd k0 k1 k2 k3 k5 newId, (KK w).lookup SIG = some (excClassObj nm q SIG N bs bm hdct sn sub ab col dd k0 k1 k2 k3 k5 newId) → bm.contains (.type "BaseException") = true → G) : G := by
  obtain ⟨nm, q, N, bs, bm, hdct, sn, sub, ab, col, dd, k0, k1, k2, k3, k5, newId, hC, hbm⟩ := h
  exact k nm q N bs bm hdct sn sub ab col dd k0 k1 k2 k3 k5 newId hC hbm
abbrev kTo (F : FPost) : FPost := fun f m1 g1 n1 => ∃ v, f = .ret v ∧ F (.ret v) m1 g1 n1
abbrev kTx (c : Cx) (m : Loc) (F : FPost) : XPost := fun g1 n1 => ∀ l, c.h0.get? l = none → F (.ret (.ref l)) (nones m) g1 ((l, LstO [.str "signal" 0, .str "circular-list" 0]) :: n1)
theorem SX.told {body : List Stmt} {np p1 p2 p3 p4 p5 p6 pos : Pos} {k1 : Nat} (hdf : c.comp = false) (hx : c.sc.names.lookup ("LispSignal" : Str) = some .globalImplicit) (hm : ∀ v, ∃ m', Put ("error" : Str) v (nones m) m')
    (h : SX c m g n body (kTo F) (kTx c m F))
    (hs4 : starEach [Expr.Constant (.str "signal") k1 p1, .Attribute (.Name "error" p2) "symbol" p3] c.env = (false, eval (Expr.Constant (.str "signal") k1 p1) c.env) :: (false, eval (.Attribute (.Name "error" p2) "symbol" p3) c.env) :: [] := by rfl)
    (hat : eval (.Attribute (.Name "error" p2) "symbol" p3) c.env = (do
      let o ← eval (.Name "error" p2) c.env
      standAt p3.atName
      let r ← holding [o] (getAttr o "symbol" true)
      letTemporaryGo (.Name "error" p2) o r
      pure r) := by with_unfolding_all rfl) :
    SX c m g n [.Try body [.ExceptHandler (some (.Name "LispSignal" np)) (some "error") [.Return (some (.List [.Constant (.str "signal") k1 p1, .Attribute (.Name "error" p2) "symbol" p3] p4)) p5] p6] [] [] pos] F Ψ := by
  refine sigOK.elim (sigOK_w c.w) fun nm q N bs bm hdct sn sub ab col dd k0 k1' k2 k3 k5 newId hC hbm => ?_
  refine SX.cons fun s Q E S hQ hE => ?_
  refine wpAny_Try_except (h s _ _ S (fun f f' m1 g1 n1 h1 tk z hf le S1 => ?_) fun x m1 g1 n1 h1 tk z le1 S1 X1 => ?_)
  · obtain ⟨v, rfl, z⟩ := z
    cases hf with
    | ret hv => exact hQ (.ret _) _ m1 g1 n1 h1 tk z (.ret hv) le S1
  · refine note_sig (s := { s with heap := h1, toks := tk }) hdf S1 X1 fun h2 S2 X2 => ?_
    refine flight_sig (s := { s with heap := h2, toks := tk }) (fr := none) S2 X2 fun h3 S3 X3 => ?_
    refine wpAny_handleBy_cons (codeAny_handlers_test ?_) (by intro q; cases q)
    refine S.G.elim fun p loose mean mg mb T => ?_
    refine Name_function_global (env := c.env) S.hk hx (loadGlobal_global (env := c.env) (T.g.keeps S3.stays) (mg_of S.G.K T.g (glob_signal _)) ?_) (by decide +kernel)
    refine X3.elim fun x1 x2 x3 x4 oe vs d od y1 y2 y3 y4 y5 y6 => ?_
    refine wpAny_excMatches_sub_self (S3.K _ _ hC) y1 y2 hbm ?_
    dsimp only
    refine codeAny_handlers_suite_as ?_
    refine flight_sig (s := { s with heap := h3, toks := tk }) (fr := none) S3 X3 fun h4 S4 X4 => ?_
    refine X4.elim fun w1 w2 w3 w4 oe vs d od z1 z2 z3 z4 z5 z6 => ?_
    have S5 : St c (nones m) g1 n1 h4 := S4.reset (fun p hp => by obtain ⟨q, _, rfl⟩ := List.mem_map.mp hp; rfl) (by rw [nones_fst]; exact S.mnd) (by rw [nones_fst]; exact S.mloc)
    obtain ⟨m', P⟩ := hm (.ref x)
    -- the exception stands in the ledger, as it is
    have S6 := S5.claim (P := fun o => o = oe) w1 w3 (fun q => w2 (by rw [q]; exact .head _)) (fun q => w2 (.tail _ q)) w4 z1 rfl
    refine store_sig (s := { s with heap := h4, toks := tk }) S6 P (Is.rfl' _) fun h5 tk5 S7 => ?_
    refine wpAny_execs_cons (wpAny_Return_some (List_ (args_cons (wpAny_Constant_str ?_) (by rw [hs4]; rfl))))
    refine args_cons (Attribute_any_ ?_ hat) (by rfl)
    obtain ⟨mm, hns, hl⟩ := S7.loc
    obtain ⟨v', hv, hi⟩ := hl "error" _ (by
      have : ∀ {x : Str} {v : Value} {m m' : Loc}, Put x v m m' → (x, some v) ∈ m' := by
        intro x v m m' P
        induction P with
        | here => exact .head _
        | there _ ih => exact .tail _ ih
      exact this P)
    obtain rfl := hi.ref
    have hkl := S7.mloc "error" (by rw [P.names]; exact P.name)
    refine wpAny_Name (wpAny_loadName_local (env := c.env) S.hk hkl.1 hns hv ?_) hkl.2
    obtain ⟨oe', he', rfl⟩ := S7.sits.ld _ (.head _)
    dsimp only at he'
    obtain ⟨es, ep, t, hdat, hsym⟩ := z6
    have hr := readsX_symbol c.w
    unfold readsX at hr
    simp only [Bool.and_eq_true, beq_iff_eq] at hr
    obtain ⟨⟨⟨r0, r1⟩, r2⟩, r3⟩ := hr
    split at r3
    case h_2 => cases r3
    rename_i attr hfa
    have I : InstAt h5 x oe' SIG (some od) := ⟨he', z2, by unfold notCls; rw [z4], by rw [z3]; exact S7.sits.vw _ _ z5⟩
    refine exc_attr S7.K I r0 r1 (findObj_own r2 hfa r3 (lookIn_of hdat hsym)) rfl (S7.K _ _ hC) hbm ?_
    refine args_nil ?_
    have hfr := Heap.get?_fresh h5
    have S8 := S7.drop.newOwn (P := LstO [.str "signal" 0, .str "circular-list" 0]) { cls := .type "list", data := .seq [Value.str "signal" tk5, .str "circular-list" t].toArray } ⟨_, _, rfl, .cons ⟨_, rfl⟩ (.cons ⟨_, rfl⟩ .nil)⟩
    refine wpAny_newObj_type ?_ (by size_fits)
    have hns8 : (h5.push { cls := .type "list", data := .seq [Value.str "signal" tk5, .str "circular-list" t].toArray }).Ns c.L mm := hns.push _
    refine wpAny_nameGoes (env := c.env) hkl.1 hns8 (by show (c.sc.kind == .class || (c.sc.kind == .module && _)) = false; rw [S.hk]; rfl) fun h6 m6 hn6 hs6 => ?_
    have e9 : nones m' = nones m := by
      have h1 : m'.map (·.1) = m.map (·.1) := P.names.trans (nones_fst m)
      have h2 : ∀ l : Loc, nones l = (l.map (·.1)).map fun x => (x, none) := fun l => by rw [List.map_map]; rfl
      rw [h2, h2, h1]
    have S9 := S8.blur hn6 hs6
    rw [e9] at S9
    exact hQ (.ret (.ref h5.objs.size)) _ (nones m) g1 _ h6 _ (z _ (S7.keep.old hfr)) (.ret rfl) le1 S9
end Mine

namespace Mine
variable {c : Cx} {m : Loc} {g : View} {n : Led} {Φ : Post} {Ψ : XPost} {F : FPost}
theorem told_fn {w : World} {h₀ : Heap} {f al : Addr} {nc : Led} {k : Nat} {Φd : Post} {Ψd : XPost} (hf : FV g f) (hF : FN w h₀ (.ref f) [.none, .ref al] g nc k Φd Ψd) (hk : 2 ≤ k) :
    FN w h₀ (.ref 662) [.ref f, .ref al] g nc (k + 1) (fun v g' n' => ∃ l, v = .ref l ∧ ((∃ r n1, Φd r g' n1 ∧ n' = (l, LstO [.str "told" 0, r]) :: n1) ∨ (∃ n1, Ψd g' n1 ∧ n' = (l, LstO [.str "signal" 0, .str "circular-list" 0]) :: n1))) (fun _ _ => False) := by
  refine' FN.of (ps := ["deed", "args"]) (rest := ["error"]) (ds := []) ?ho ?hcd ?hb ?hl ?hn ?hnd ?hc ?hco ?hg ?hk ?h
  (walk_at "M.ent"; intro c hw hh hsc hk' hn0 hcomp hcl hcd hnm G hb; subst hw hh; walk_at "M.ds")
  refine' SX.told hcomp ?a1 ?a2 ?_
  case a1 => walk_at "M.lk"
  case a2 => intro v; exact ⟨_, .there (.there .here)⟩
  walk_at "M.go"
  refine EX.lst ?_
  walk_at "M.go"
  refine EX.callF' ?_
  walk_at "M.go"
  refine CA.fnN hF (by walk_at "M.om") (fun v g' n' le fr z => ?_) (fun g' n' le z => ?_)
  · walk_at "M.go"
    intro l hl
    exact ⟨_, rfl, l, rfl, .inl ⟨v, n', z, rfl⟩⟩
  · intro l hl
    exact ⟨l, rfl, .inr ⟨n', z, rfl⟩⟩
end Mine

namespace Mine
variable {c : Cx} {m : Loc} {g : View} {n : Led} {Φ : Post} {Ψ : XPost} {F : FPost}
def SI (c : Cx) (m : Loc) (g : View) (n : Led) (o i v : Value) (K : View → Led → Prop) (Ψ : XPost) : Prop := ∀ o' i' v', Is o o' → Is i i' → Is v v' → DO c m g n (setItem o' i' v') (fun _ => K) Ψ
abbrev kSI3 (c : Cx) (m : Loc) (u v : Value) (rest : List Stmt) (F : FPost) (Ψ : XPost) : Post := fun j g n => SI c m g n u j v (kSx c m rest F Ψ) Ψ
abbrev kSI2 (c : Cx) (m : Loc) (i : Expr) (v : Value) (rest : List Stmt) (F : FPost) (Ψ : XPost) : Post := fun u g n => EX c m g n i (kSI3 c m u v rest F Ψ) Ψ
abbrev kSI (c : Cx) (m : Loc) (o i : Expr) (rest : List Stmt) (F : FPost) (Ψ : XPost) : Post := fun v g n => EX c m g n o (kSI2 c m i v rest F Ψ) Ψ
theorem SX.setI {o i value : Expr} {pos' pos : Pos} {rest : List Stmt} (h : EX c m g n value (kSI c m o i rest F Ψ) Ψ)
    (hs : swapsWith value (some (.Subscript o i pos')) pos.line c.env = pure false := by rfl) : SX c m g n (.Assign [.Subscript o i pos'] value pos :: rest) F Ψ :=
  SX.cons fun s Q E S hQ hE => wpAny_Assign_Subscript (h s _ E S (fun a g1 n1 h1 tk z le S1 => by
    obtain ⟨v, hv, k⟩ := z
    refine k { s with heap := h1, toks := tk } _ E S1 (fun b g2 n2 h2 tk2 z le2 S2 => ?_) fun x g' n' h' tk' z le' S' X => hE x m g' n' h' tk' z (le.trans le') S' X
    obtain ⟨u, hu, k⟩ := z
    refine k { s with heap := h2, toks := tk2 } _ E S2 (fun d g3 n3 h3 tk3 z le3 S3 => ?_) fun x g' n' h' tk' z le' S' X => hE x m g' n' h' tk' z ((le.trans le2).trans le') S' X
    obtain ⟨j, hj, k⟩ := z
    exact k b d a hu hj hv { s with heap := h3, toks := tk3 } _ E S3 (fun _ g4 n4 h4 tk4 z le4 S4 => hQ .next .next m g4 n4 h4 tk4 z .next (((le.trans le2).trans le3).trans le4) S4) fun x g' n' h' tk' z le' S' X => hE x m g' n' h' tk' z (((le.trans le2).trans le3).trans le') S' X)
    fun x g' n' h' tk z le S' X => hE x m g' n' h' tk z le S' X) hs
theorem AllIs.set {us vs : List Value} {u v : Value} (h : AllIs us vs) (hv : Is u v) : ∀ i : Nat, AllIs (us.set i u) (vs.set i v) := by
  induction h with
  | nil => intro i; exact .nil
  | cons h0 h1 ih =>
    intro i
    cases i with
    | zero => exact .cons hv h1
    | succ i => exact .cons h0 (ih i)
theorem setItem_at {prog : Program} {w : World} {A : Around} {E : Value → Shared → Prop} {s : Shared} {l : Addr} {its : Array Value} {kk : Nat} {k : Int} {t : Tok} {v : Value} {Q : Unit → Shared → Prop} (hol : s.heap.get? l = some (listOf its kk)) (h0 : 0 ≤ k) (hfit : k < 2 ^ 63) (hn : k < its.size)
    (hQ : Q () { s with heap := s.heap.update l (Obj.mapSeq (·.setIfInBounds k.toNat v)) }) : wpAny (model prog w) A (setItem (.ref l) (.int k t) v) Q E s := by
  have hT : s.TypeIs (.ref l) "list" := ⟨_, hol, rfl⟩
  have hd : (listOf its kk).data = .seq its kk := rfl
  unfold setItem
  try with_reducible refine wpAny_holding ?_
  first | refine wpAny_bind (wpAny_pure ?_) | skip
  refine wpAny_bind (wpAny_sequenceKey hT (by decide) ?_)
  refine wpAny_bind (wpAny_callSpecial?_slot (name := Str.ofString "__setitem__") hT PySem.slot_list_setitem (wpAny_call_entry PySem.slot_list_setitem hT PySem.entry_list_setitem ?_ (PySem.args_list_setitem _ _ _)))
  show wpAny _ _ (Builtin.List.listSubscript? (.int k t) >>= _) _ _ s
  refine wpAny_bind (wpAny_listSubscript_int (fitsIndex_of h0 hfit) ?_)
  clear hfit
  obtain ⟨j, rfl⟩ := Int.eq_ofNat_of_zero_le h0
  have hj : j < its.size := by omega
  have hx' : its[j]? = some its[j] := Array.getElem?_eq_getElem hj
  show wpAny _ _ ((seqItemAt l j >>= fun r => pure (r.map (j, ·))) >>= _) _ _ s
  refine wpAny_bind (wpAny_bind (wpAny_seqItemAt hol hd (wpAny_pure ?_)))
  rw [hx']
  show wpAny _ _ (setSeqItemAt l j v >>= _) _ _ s
  refine wpAny_bind (wpAny_setSeqItemAt hol hd ?_)
  first
    | exact wpAny_bind (wpAny_pure (wpAny_pure ⟨.none, rfl, wpAny_pure hQ⟩))
    | exact wpAny_pure ⟨.none, rfl, wpAny_pure hQ⟩
theorem SI.lst {l : Addr} {us : List Value} {k : Nat} {t : Tok} {u : Value} {K : View → Led → Prop} {n' : Led} (U : Swap l (LstO us) (LstO (us.set k u)) n n') (hk : k < us.length) (hfit : us.length ≤ 1000000) (h : K g n') : SI c m g n (.ref l) (.int k t) u K Ψ := fun o' i' v' ho hi hv s Q E S hQ hE => by
  obtain rfl := ho.ref; obtain ⟨t', rfl⟩ := hi.int
  obtain ⟨o, hol, its, kk, rfl, hI⟩ := S.sits.ld _ U.mem
  have e0 : us.length = its.size := by rw [hI.length]; simp
  refine setItem_at hol (by walk_at "M.om") (by walk_at "M.om") (by walk_at "M.om") ?_
  have ho' : (s.heap.update l (Obj.mapSeq (·.setIfInBounds (k : Int).toNat v'))).get? l = some (Obj.mapSeq (·.setIfInBounds (k : Int).toNat v') (listOf its kk)) := Heap.get?_update_self _ hol (by rfl)
  refine hQ () g n' _ s.toks h (Le.rfl' g) (S.swap U (Heap.SameBut.update ..) ho' ⟨_, _, rfl, ?_⟩)
  show AllIs (us.set k u) (its.setIfInBounds (k : Int).toNat v').toList
  rw [Array.toList_setIfInBounds, Int.toNat_natCast]; exact hI.set hv k
theorem CA.abs {i : Int} {t : Tok} (h : Φ (.int (if i < 0 then -i else i) 0) g n) : CA c m g n (.builtin "abs") [.int i t] Φ Ψ := fun vs' hv => DO.val h fun s Q E S hQ => by
  cases hv with | cons h1 h2 =>
    cases h2; obtain ⟨t', rfl⟩ := h1.int
    exact call_abs_int fun u tk => hQ _ s.heap _ ⟨_, rfl⟩ S
theorem bits64 {i : Int} (h : i.natAbs < 2 ^ 63) : Builtin.Int.intBits i ≤ 64 := by
  unfold Builtin.Int.intBits
  split
  · omega
  · have := (Nat.log2_lt (n := i.natAbs) (k := 63) (by rename_i q; simp at q; omega)).mpr h
    omega
theorem BO.mulS {i j : Int} {t u : Tok} (hm : i.natAbs < 2 ^ 63) (h : Φ (.int (i * j) 0) g n) : BO c m g n .Mult (.int i t) (.int j u) Φ Ψ := BO.mul (IntMulOk.of_left (bits64 hm)) h
theorem pylong6 (x : Int) : Builtin.divisionGoesByPylong x 6 = false := by kernel_rfl
theorem BO.div6 {i : Int} {t u : Tok} (h : Φ (.int (i.fdiv 6) 0) g n) : BO c m g n .FloorDiv (.int i t) (.int 6 u) Φ Ψ := BO.div (by decide) (pylong6 i) h
theorem BO.pow {i : Int} {k : Nat} {t u : Tok} (hk : k ≤ 1000000) (hi : i.natAbs < 2 ^ 64) (h : Φ (.int (i ^ k) 0) g n) : BO c m g n .Pow (.int i t) (.int k u) Φ Ψ := fun u' v' hu hv => DO.val h fun s Q E S hQ => by
  obtain ⟨_, rfl⟩ := hu; obtain ⟨_, rfl⟩ := hv
  exact PyProof.Rows.pow_int_small (by walk_at "M.om") (by walk_at "M.om") hi (hQ _ s.heap _ ⟨_, by rw [Int.toNat_natCast]⟩ S)
end Mine

local macro_rules | `(tactic| walk_at "M.x2") => `(tactic| ((with_reducible refine (?_ : Mine.SX _ _ _ _ (Stmt.Assign [Expr.Subscript _ _ _] _ _ :: _) _ _)); refine Mine.SX.setI ?_))
local macro_rules | `(tactic| walk_at "M.s") => `(tactic| first
  | ((with_reducible refine (?_ : Mine.BO _ _ _ _ Operator.FloorDiv _ _ _ _)); refine Mine.BO.div6 ?_))
namespace Mine
variable {c : Cx} {m : Loc} {g : View} {n : Led} {Φ : Post} {Ψ : XPost} {F : FPost}
structure Deck (g : View) (dl : Addr) (us : List Value) : Prop where
  lst : Lst g dl us
  nums : ∀ (i : Nat) (u : Value), us[i]? = some u → ∃ z : Nat, u = Value.int z 0
  len : us.length ≤ 63
theorem Deck.le {g g' : View} {dl us} (h : Deck g dl us) (k : Le g g') : Deck g' dl us := ⟨h.lst.le k, h.nums, h.len⟩
abbrev DkL (dk dl : Addr) (k : Nat) : Addr × (Obj → Prop) := (dk, LstO [.ref dl, .int k 0])
theorem draw_fn {w : World} {h₀ : Heap} {dk dl : Addr} {us : List Value} {k many : Nat} {t : Tok} (hD : Deck g dl us) (hk : k ≤ 100000) (hm : 0 < many) (hm1 : many ≤ 1000) :
    FN w h₀ (.ref 634) [.ref dk, .int many t] g [DkL dk dl k] 1 (fun v g' n' => ∃ z : Nat, z < many ∧ v = .int z 0 ∧ n' = [DkL dk dl (k + 1)]) (fun _ _ => False) := by
  refine' FN.of (ps := ["deck", "many"]) (rest := []) (ds := []) ?ho ?hcd ?hb ?hl ?hn ?hnd ?hc ?hco ?hg ?hk ?h
  (walk_at "M.ent"; intro c hw hh hsc hk' hn0 hcomp hcl hcd hnm G hb; subst hw hh; walk_at "M.ds")
  walk_at "M.go"
  refine SI.lst (k := 1) (n' := [DkL dk dl (k + 1)]) .head (by simp) (by simp) ?_
  have hlen := hD.len
  have hl := hD.lst
  walk_at "M.go"
  refine ⟨fun hz => ?_, fun hz => ?_⟩
  · have hz : ((k + 1 : Nat) : Int) ≤ us.length := of_decide_eq_true hz
    walk_at "M.go"
    obtain ⟨z, hz1⟩ := hD.nums k us[k] (List.getElem?_eq_getElem (by walk_at "M.om"))
    refine SB.lst (k := ((k + 1 : Nat) : Int) - 1) (.inl hD.lst) (by walk_at "M.om") (by walk_at "M.om") (u := .int z 0) (by rw [show (((k + 1 : Nat) : Int) - 1).toNat = k from by walk_at "M.om", ← hz1]; exact List.getElem?_eq_getElem (by walk_at "M.om")) ?_
    walk_at "M.go"
    refine ⟨z % many, Nat.mod_lt _ hm, ?_, rfl⟩
    rw [Int.fmod_eq_emod_of_nonneg _ (by walk_at "M.om")]; push_cast; rfl
  · walk_at "M.go"
    refine BO.mulS (by walk_at "M.om") ?_
    walk_at "M.go"
    have hkk : ((k + 1 : Nat) : Int) * ((k + 1 : Nat) : Int) = (((k + 1) * (k + 1) : Nat) : Int) := by push_cast; rfl
    have hb1 : (k + 1) * (k + 1) ≤ 100001 * 100001 := Nat.mul_le_mul (by walk_at "M.om") (by walk_at "M.om")
    rw [hkk]
    refine BO.mulS (by walk_at "M.om") ?_
    walk_at "M.go"
    refine BO.mulS (by walk_at "M.om") ?_
    walk_at "M.go"
    refine BO.mulS (by walk_at "M.om") ?_
    walk_at "M.go"
    refine ⟨(((k + 1) * (k + 1) * 43 + 19 * (k + 1) + 7 * us.length) / 6) % many, Nat.mod_lt _ hm, ?_, rfl⟩
    rw [show ((((k + 1) * (k + 1) : Nat) : Int) * 43 + 19 * ((k + 1 : Nat) : Int) + 7 * (us.length : Int)) = (((k + 1) * (k + 1) * 43 + 19 * (k + 1) + 7 * us.length : Nat) : Int) from by push_cast; rfl]
    rw [Int.fdiv_eq_ediv_of_nonneg _ (by walk_at "M.om"), Int.fmod_eq_emod_of_nonneg _ (by walk_at "M.om")]; push_cast; rfl
end Mine

namespace Mine
variable {c : Cx} {m : Loc} {g : View} {n : Led} {Φ : Post} {Ψ : XPost} {F : FPost}
theorem Swap.parts {a : Addr} {P P' : Obj → Prop} {n n' : Led} (h : Swap a P P' n n') : ∃ pre post, n = pre ++ [(a, P)] ++ post ∧ n' = pre ++ [(a, P')] ++ post := by
  induction h with
  | head => exact ⟨[], _, rfl, rfl⟩
  | @tail p n n' _ ih =>
    obtain ⟨pre, post, e, e'⟩ := ih
    exact ⟨p :: pre, post, by rw [e]; rfl, by rw [e']; rfl⟩
theorem CA.draw {dk dl : Addr} {us : List Value} {k : Nat} {M : Int} {t : Tok} {n' : Led} (many : Nat) (hM : M = (many : Int)) (hD : Deck g dl us) (U : Swap dk (LstO [.ref dl, .int k 0]) (LstO [.ref dl, .int (k + 1 : Nat) 0]) n n') (hk : k ≤ 100000) (hm : 0 < many) (hm1 : many ≤ 1000) (hck : 1 ≤ c.k)
    (h : ∀ z g', z < many → Le g g' → Φ (.int (z : Nat) 0) g' n') : CA c m g n (.ref 634) [.ref dk, .int M t] Φ Ψ := by
  subst hM
  obtain ⟨pre, post, rfl, rfl⟩ := U.parts
  refine CA.fnP (draw_fn hD hk hm hm1) hck (fun v g' n' le _ z => ?_) (fun _ _ _ z => z.elim)
  obtain ⟨z, hz, rfl, rfl⟩ := z
  exact h z g' hz le
structure RingV (g : View) (rt pl tl : Addr) (P : Nat → Addr) (T : Nat → Value) (τ : Nat → Tag) (a q : Nat) : Prop where
  tup : Tup g rt [.ref pl, .ref tl, .int a 0]
  pls : Lst g pl ((List.range (a + q)).map fun i => .ref (P i))
  tls : Lst g tl ((List.range (a + q)).map T)
  ring : Ring g P T a q
  thg : ∀ i, Thg g (T i) (τ i)
  pT : ∀ i j, P i = P j → T i = T j ∧ τ i = τ j
  ha : a ≤ 4
  hq : q ≤ 5
theorem RingV.le {g g' : View} {rt pl tl P T τ a q} (h : RingV g rt pl tl P T τ a q) (k : Le g g') : RingV g' rt pl tl P T τ a q :=
  ⟨h.tup.le k, h.pls.le k, h.tls.le k, h.ring.le k, fun i => (h.thg i).le k, h.pT, h.ha, h.hq⟩
theorem RingV.Tspot {g : View} {rt pl tl P T τ a q} (h : RingV g rt pl tl P T τ a q) (k : Nat) : T (spotN a q k) = T k := (h.pT _ _ (spot_P h.ring.m0 h.ring.per)).1
theorem spotN_lt {a q k : Nat} (hq : 0 < q) : spotN a q k < a + q := by
  unfold spotN
  split
  · omega
  · have := Nat.mod_lt (k - a) hq; omega
theorem spotN_of {a q k : Nat} (hk : k < a + q) : spotN a q k = k := by
  unfold spotN
  split
  · rfl
  · rw [Nat.mod_eq_of_lt (by walk_at "M.om")]; omega
theorem get_map {α : Type} {N i : Nat} {f : Nat → α} (h : i < N) : ((List.range N).map f)[i]? = some (f i) := by
  rw [List.getElem?_map, List.getElem?_range h]; rfl
section
variable {w : World} {h₀ : Heap} {rt pl tl : Addr} {P : Nat → Addr} {T : Nat → Value} {τ : Nat → Tag} {a q : Nat}
theorem spot_fn {k : Nat} {t : Tok} (hR : RingV g rt pl tl P T τ a q) : FT w h₀ (.ref 648) [.ref rt, .int k t] g 1 (fun v _ => ∃ u, v = .int (spotN a q k : Nat) u) := by
  refine' FN.of (ps := ["ring", "place"]) (rest := ["pairs", "things", "ahead"]) (ds := []) ?ho ?hcd ?hb ?hl ?hn ?hnd ?hc ?hco ?hg ?hk ?h
  (walk_at "M.ent"; intro c hw hh hsc hk' hn0 hcomp hcl hcd hnm G hb; subst hw hh; walk_at "M.ds")
  have h1 := hR.tup
  have h2 := hR.pls
  have hq := hR.ring.m0
  have ha4 := hR.ha
  have hq5 := hR.hq
  walk_at "M.go"
  have hlen : ((List.range (a + q)).map fun i => Value.ref (P i)).length = a + q := by simp
  rw [hlen]
  refine ⟨fun hz => ?_, fun hz => ?_⟩
  · have hz : (k : Int) < ((a + q : Nat) : Int) := of_decide_eq_true hz
    walk_at "M.go"
    exact ⟨rfl, t, by rw [spotN_of (by walk_at "M.om")]⟩
  · have hz : ¬ (k : Int) < ((a + q : Nat) : Int) := of_decide_eq_false hz
    walk_at "M.go"
    rw [hlen]
    walk_at "M.go"
    refine ⟨rfl, 0, ?_⟩
    unfold spotN
    by_cases hka : k ≤ a
    · omega
    rw [if_neg hka, show ((a + q : Nat) : Int) - (a : Int) = (q : Int) from by walk_at "M.om", Int.fmod_eq_emod_of_nonneg _ (by walk_at "M.om"), show (k : Int) - a = ((k - a : Nat) : Int) from by omega]
    push_cast
    rfl
theorem is_the_fn {v : Value} {t : Tag} (hT : Thg g v t) : FT w h₀ (.ref 669) [v, v] g 2 (fun r _ => r = .bool true) := by
  refine' FN.of (ps := ["found", "thing"]) (rest := []) (ds := []) ?ho ?hcd ?hb ?hl ?hn ?hnd ?hc ?hco ?hg ?hk ?h
  (walk_at "M.ent"; intro c hw hh hsc hk' hn0 hcomp hcl hcd hnm G hb; subst hw hh; walk_at "M.ds")
  cases t with
  | num z =>
    obtain rfl : v = .int z 0 := hT
    walk_at "M.go"
    exact ⟨rfl, by simp⟩
  | pair x y =>
    obtain ⟨d, rfl, hc⟩ := hT
    walk_at "M.go"
    exact ⟨rfl, by simp⟩
end
end Mine

local macro_rules | `(tactic| walk_at "M.deck") => `(tactic| first | assumption | exact Mine.Deck.le (by walk_at "M.deck") (by assumption))
namespace Mine
variable {c : Cx} {m : Loc} {g : View} {n : Led} {Φ : Post} {Ψ : XPost} {F : FPost}
theorem map_ext {α : Type} {N : Nat} {f f' : Nat → α} (h : ∀ j, j < N → f j = f' j) : (List.range N).map f = (List.range N).map f' := List.map_congr_left fun j hj => h j (List.mem_range.mp hj)
theorem map_snoc {α : Type} {N : Nat} {f : Nat → α} {v : α} : (List.range N).map f ++ [v] = (List.range (N + 1)).map (fun j => if j = N then v else f j) := by
  rw [List.range_succ, List.map_append, List.map_singleton, if_pos rfl]
  congr 1
  exact map_ext fun j hj => (if_neg (by walk_at "M.om")).symm
theorem map_snoc' {α : Type} {N : Nat} {f : Nat → α} : (List.range N).map f ++ [f N] = (List.range (N + 1)).map f := by
  rw [List.range_succ, List.map_append, List.map_singleton]
theorem CA.frzC {f : Value} {vs : List Value} {x d : Addr} {u v : Value} (h0 : c.h0.get? d = none) (hx : g x = some (instObj CONS d)) (h : ∀ g2, Le g g2 → Cel g2 x u v → CA c m g2 n f vs Φ Ψ) : CA c m g ((d, DicM (celF u v)) :: n) f vs Φ Ψ := fun vs' hv =>
  DO.freeze h0 fun o hP le => h _ le ⟨d, o, le _ _ hx, gset_self, hP⟩ vs' hv
theorem CA.perm {f : Value} {vs : List Value} {n' : Led} (p : n.Perm n') (h : CA c m g n' f vs Φ Ψ) : CA c m g n f vs Φ Ψ := fun vs' hv => DO.perm p (h vs' hv)
theorem Opn.chl {g0 : View} {P : Nat → Addr} {T : Nat → Value} {k : Nat} {d : Addr} (hO : Opn g0 g P T k d) (hk0 : 0 < k) : ∃ P', ChL g [(d, DicM (celF (T (k - 1)) (.ref NIL)))] P' T k ∧ ∀ i, i < k → P' i = P i := by
  refine ⟨fun i => if i = k then NIL else P i, ⟨fun i hi => ?_, if_pos rfl, fun i j hi hj e => ?_⟩, fun i hi => if_neg (by walk_at "M.om")⟩
  · rw [if_neg (by walk_at "M.om")]
    by_cases q : i + 1 = k
    · rw [if_pos q]
      obtain rfl : i = k - 1 := by omega
      exact ⟨d, hO.lst, .inr (.head _)⟩
    · rw [if_neg q]; exact (hO.chn.cel i (by walk_at "M.om")).inst
  · rw [if_neg (by walk_at "M.om"), if_neg (by walk_at "M.om")] at e; exact hO.inj i j hi hj e
theorem succ_mod {x q : Nat} (hq : 0 < q) : (x + 1) % q = if x % q + 1 = q then 0 else x % q + 1 := by
  have hm := Nat.mod_lt x hq
  rcases Nat.eq_or_lt_of_le (show 1 ≤ q from hq) with e | e
  · subst e; simp [Nat.mod_one]
  · rw [Nat.add_mod, Nat.mod_eq_of_lt e]
    split
    · rename_i h; rw [h, Nat.mod_self]
    · exact Nat.mod_eq_of_lt (by walk_at "M.om")
theorem spot_ge {a q i : Nat} (h : a ≤ i) : spotN a q i = a + (i - a) % q := by
  unfold spotN
  split
  · obtain rfl : i = a := by omega
    simp
  · rfl
theorem spot_lo {a q i : Nat} (h : i ≤ a) : spotN a q i = i := by unfold spotN; rw [if_pos h]
theorem spot_succ {a q i : Nat} (hq : 0 < q) : spotN a q (i + 1) = if spotN a q i + 1 = a + q then a else spotN a q i + 1 := by
  have hm := Nat.mod_lt (i - a) hq
  by_cases h1 : i < a
  · rw [spot_lo (show i + 1 ≤ a from h1), spot_lo (show i ≤ a by walk_at "M.om"), if_neg (by walk_at "M.om")]
  · rw [spot_ge (show a ≤ i + 1 by walk_at "M.om"), spot_ge (show a ≤ i by walk_at "M.om"), show i + 1 - a = (i - a) + 1 from by walk_at "M.om", succ_mod hq]
    split
    · rw [if_pos (by walk_at "M.om")]; rfl
    · rw [if_neg (by walk_at "M.om")]; omega
theorem spot_eq {a q i j : Nat} (hq : 0 < q) : spotN a q i = spotN a q j ↔ (i = j ∨ (a ≤ i ∧ a ≤ j ∧ i % q = j % q)) := by
  have hi := Nat.mod_lt (i - a) hq
  have hj := Nat.mod_lt (j - a) hq
  have key : ∀ i, a ≤ i → spotN a q i = a + (i - a) % q := fun i h => by
    unfold spotN
    split
    · obtain rfl : i = a := by omega
      simp
    · rfl
  have md : ∀ i j, a ≤ i → a ≤ j → ((i - a) % q = (j - a) % q ↔ i % q = j % q) := fun i j h1 h2 => by
    constructor
    · intro h
      rw [show i = a + (i - a) from by walk_at "M.om", show j = a + (j - a) from by walk_at "M.om", Nat.add_mod, h, ← Nat.add_mod]
    · intro h
      refine modc (j := a) ?_
      rw [show a + (i - a) = i from by walk_at "M.om", show a + (j - a) = j from by omega]; exact h
  have lo : ∀ i, i < a → spotN a q i = i := fun i h => by unfold spotN; rw [if_pos (by walk_at "M.om")]
  by_cases h1 : a ≤ i
  · by_cases h2 : a ≤ j
    · rw [key i h1, key j h2]
      constructor
      · intro h; exact .inr ⟨h1, h2, (md i j h1 h2).mp (by walk_at "M.om")⟩
      · rintro (rfl | ⟨_, _, h⟩)
        · rfl
        · rw [(md i j h1 h2).mpr h]
    · rw [key i h1, lo j (by walk_at "M.om")]
      constructor
      · intro h; omega
      · rintro (h | ⟨_, h, _⟩) <;> omega
  · by_cases h2 : a ≤ j
    · rw [lo i (by walk_at "M.om"), key j h2]
      constructor
      · intro h; omega
      · rintro (h | ⟨h, _, _⟩) <;> omega
    · rw [lo i (by walk_at "M.om"), lo j (by walk_at "M.om")]
      constructor
      · intro h; exact .inl h
      · rintro (h | ⟨h, _, _⟩)
        · exact h
        · omega
theorem ring_build {Q : Nat → Addr} {T0 : Nat → Value} {a q : Nat} (hq : 0 < q) (ha4 : a ≤ 4) (hq5 : q ≤ 5) (h1 : ∀ i, i < a + q - 1 → Cel g (Q i) (T0 i) (.ref (Q (i + 1)))) (h2 : Cel g (Q (a + q - 1)) (T0 (a + q - 1)) (.ref (Q a))) (inj : ∀ i j, i < a + q → j < a + q → Q i = Q j → i = j) :
    Ring g (fun i => Q (spotN a q i)) (fun i => T0 (spotN a q i)) a q := by
  refine ⟨fun i => ?_, hq, fun i j => ?_, ?_⟩
  · have hl := spotN_lt (a := a) (k := i) hq
    rw [spot_succ hq]
    split
    · rename_i e
      rw [show spotN a q i = a + q - 1 from by omega]; exact h2
    · exact h1 _ (by walk_at "M.om")
  · rw [← spot_eq hq]
    exact ⟨fun e => inj _ _ (spotN_lt hq) (spotN_lt hq) e, fun e => by rw [e]⟩
  · calc q * (a + 1) ≤ 5 * 5 := Nat.mul_le_mul hq5 (by walk_at "M.om")
      _ ≤ 100000 := by omega
section
variable {w : World} {h₀ : Heap} {dk dl : Addr} {us : List Value} {k : Nat}
theorem law_ring_fn (hD : Deck g dl us) (hk : k ≤ 10000) :
    FN w h₀ (.ref 641) [.ref dk] g [DkL dk dl k] 6 (fun v g' n' => ∃ rt pl tl P T τ a q k', v = .ref rt ∧ n' = [DkL dk dl k'] ∧ k' ≤ k + 40 ∧ RingV g' rt pl tl P T τ a q) (fun _ _ => False) := by
  refine' FN.of (ps := ["deck"]) (rest := ["ahead", "many", "things", "turn", "number", "pairs", "here"]) (ds := []) ?ho ?hcd ?hb ?hl ?hn ?hnd ?hc ?hco ?hg ?hk ?h
  (walk_at "M.ent"; intro c hw hh hsc hk' hn0 hcomp hcl hcd hnm G hb; subst hw hh; walk_at "M.ds")
  walk_at "M.go"
  refine CA.draw 5 rfl hD .head (by walk_at "M.om") (by walk_at "M.om") (by walk_at "M.om") (by walk_at "M.om") fun a g1 ha le1 => ?_
  walk_at "M.go"
  refine CA.draw 5 rfl (hD.le le1) .head (by walk_at "M.om") (by walk_at "M.om") (by walk_at "M.om") (by walk_at "M.om") fun q' g2 hq' le2 => ?_
  walk_at "M.go"
  refine EX.lst ?_
  walk_at "M.go"
  intro tl htl
  walk_at "M.go"
  rename_i r g3 le3 hr
  have hr : Rng g3 r 0 ((a + (q' + 1) : Nat) : Int) 1 := by rw [show ((a + (q' + 1) : Nat) : Int) = (a : Int) + (1 + (q' : Int)) from by push_cast; omega]; exact hr
  have hD3 := hD.le (le1.trans (le2.trans le3))
  refine Iter.rng (k := 1) (len := a + (q' + 1)) hr (small_up (by walk_at "M.om")) range_up fun it => ?_
  refine ⟨fun i m1 g1 n1 => i ≤ 9 ∧ ∃ (T0 : Nat → Value) (τ0 : Nat → Tag) (kd : Nat) (tn nb : Option Value), m1 = [(("deck" : Str), some (.ref dk)), (("ahead" : Str), some (.int a 0)), (("many" : Str), some (.int (1 + q') 0)), (("things" : Str), some (.ref tl)), (("turn" : Str), tn), (("number" : Str), nb), (("pairs" : Str), none), (("here" : Str), none)] ∧
      n1 = [(tl, LstO ((List.range i).map T0)), DkL dk dl kd] ∧ kd ≤ k + 2 + 3 * i ∧ (∀ j, j < i → Thg g1 (T0 j) (τ0 j)) ∧ Le g3 g1, ⟨by walk_at "M.om", fun _ => .none, fun _ => .num 0, k + 1 + 1, _, _, rfl, rfl, by walk_at "M.om", fun j h => absurd h (by walk_at "M.om"), Le.rfl' _⟩, fun _ _ _ _ _ => trivial, ?_, ?_⟩
  · rintro i u m1 g4 g5 n1 le4 hi ⟨_, T0, τ0, kd, tn, nb, rfl, rfl, hkd, hth, le34⟩ le5 rfl
    refine AG.name (by walk_at "M.put") ?_
    have hD5 := hD3.le (le34.trans le5)
    have hth5 : ∀ j, j < i → Thg g5 (T0 j) (τ0 j) := fun j hj => (hth j hj).le le5
    walk_at "M.go"
    refine CA.draw 4 rfl hD5 (by walk_at "M.swap") (by walk_at "M.om") (by walk_at "M.om") (by walk_at "M.om") (by walk_at "M.om") fun z g6 hz le6 => ?_
    walk_at "M.go"
    refine CA.draw 3 rfl (hD5.le le6) (by walk_at "M.swap") (by walk_at "M.om") (by walk_at "M.om") (by walk_at "M.om") (by walk_at "M.om") fun z3 g7 hz3 le7 => ?_
    walk_at "M.go"
    refine ⟨fun hz => ?_, fun hz => ?_⟩
    · walk_at "M.go"
      refine CA.draw 4 rfl ((hD5.le le6).le le7) (by walk_at "M.swap") (by walk_at "M.om") (by walk_at "M.om") (by walk_at "M.om") (by walk_at "M.om") fun z4 g8 hz4 le8 => ?_
      walk_at "M.go"
      refine CA.cons rfl rfl (by walk_at "M.om") fun x d g9 le9 hx hd hgx => ?_
      walk_at "M.s"
      refine CA.frzC hd hx fun g10 le10 hcel => ?_
      walk_at "M.go"
      have le510 := le6.trans (le7.trans (le8.trans (le9.trans le10)))
      rw [map_snoc]
      refine ⟨_, rfl, by walk_at "M.om", _, fun j => if j = i then .pair z z4 else τ0 j, _, _, _, rfl, rfl, by walk_at "M.om", fun j hj => ?_, le34.trans (le5.trans le510)⟩
      by_cases q : j = i
      · dsimp only; rw [if_pos q, if_pos q]; exact ⟨x, rfl, hcel⟩
      · dsimp only; rw [if_neg q, if_neg q]; exact (hth5 j (by walk_at "M.om")).le le510
    · walk_at "M.go"
      have le57 := le6.trans le7
      rw [map_snoc]
      refine ⟨_, rfl, by walk_at "M.om", _, fun j => if j = i then .num z else τ0 j, _, _, _, rfl, rfl, by walk_at "M.om", fun j hj => ?_, le34.trans (le5.trans le57)⟩
      by_cases q : j = i
      · dsimp only; rw [if_pos q, if_pos q]; rfl
      · dsimp only; rw [if_neg q, if_neg q]; exact (hth5 j (by walk_at "M.om")).le le57
  · rintro m1 g4 g5 n1 le4 ⟨_, T0, τ0, kd, tn, nb, rfl, rfl, hkd, hth, le34⟩ le5
    have hth5 : ∀ j, j < a + (q' + 1) → Thg g5 (T0 j) (τ0 j) := fun j hj => (hth j hj).le le5
    refine SX.frzL htl fun g6 le6 htls => ?_
    walk_at "M.go"
    refine EX.lst ?_
    walk_at "M.go"
    intro pl hpl
    walk_at "M.go"
    have hN : 0 < a + (q' + 1) := by omega
    refine CA.fn (list_of_open (T := T0) (k := a + (q' + 1)) (tl := NIL) (ds := [.ref NIL]) hN htls (by simp) (fun i hi => get_map hi) (fun i hi => (hth5 i hi).handed) (by walk_at "M.om") (.inl ⟨rfl, rfl, rfl⟩)) (by walk_at "M.om") (fun v g7 n7 le7 fr z => ?_) (fun _ _ _ z => z.elim)
    obtain ⟨P0, d, rfl, rfl, hO⟩ := z
    have hd0 := fr d (.head _)
    walk_at "M.go"
    obtain ⟨Q, hC, hQP⟩ := hO.chl hN
    rw [← hQP 0 hN]
    refine SX.while (fun j m1 g1 n1 => ∃ s, s + j = a + (q' + 1) ∧ m1 = [(("deck" : Str), some (.ref dk)), (("ahead" : Str), some (.int a 0)), (("many" : Str), some (.int (1 + q') 0)), (("things" : Str), some (.ref tl)), (("turn" : Str), tn), (("number" : Str), nb), (("pairs" : Str), some (.ref pl)), (("here" : Str), some (.ref (Q s)))] ∧
      n1 = [(d, DicM (celF (T0 (a + (q' + 1) - 1)) (.ref NIL))), (pl, LstO ((List.range s).map fun i => .ref (Q i))), DkL dk dl kd]) (a + (q' + 1)) ⟨0, by walk_at "M.om", rfl, rfl⟩ ?_
    rintro j m1 g8 n1 le8 ⟨s, hs, rfl, rfl⟩
    have hC8 := (hC.le le8).mono (n' := [(d, DicM (celF (T0 (a + (q' + 1) - 1)) (.ref NIL))), (pl, LstO ((List.range s).map fun i => .ref (Q i))), DkL dk dl kd]) (fun p hp => by rw [List.mem_singleton.mp hp]; exact .head _)
    walk_at "M.go"
    rcases Nat.eq_or_lt_of_le (show s ≤ a + (q' + 1) from by walk_at "M.om") with rfl | hlt
    · rw [hC8.fin]
      refine CO.nilntNil ?_
      walk_at "M.go"
      have hlen : ((List.range (a + (q' + 1))).map fun i => Value.ref (Q i)).length = a + (q' + 1) := by simp
      refine SX.setA ?_
      walk_at "M.go"
      refine SB.lst (k := (a : Int)) (.inr (.tail _ (.head _))) (by walk_at "M.om") (by walk_at "M.om") (u := .ref (Q a)) (by rw [Int.toNat_natCast]; exact get_map (by walk_at "M.om")) ?_
      walk_at "M.go"
      refine SB.lstN (us := (List.range (a + (q' + 1))).map fun i => Value.ref (Q i)) (.inr (.tail _ (.head _))) (by walk_at "M.om") (by rw [hlen]; omega) (by walk_at "M.om") (u := .ref (Q (a + (q' + 1) - 1))) (by rw [hlen, show (-1 + ((a + (q' + 1) : Nat) : Int)).toNat = a + (q' + 1) - 1 from by omega]; exact get_map (by walk_at "M.om")) ?_
      have hlst := le8 _ _ hO.lst
      rw [← hQP _ (by walk_at "M.om")] at hlst
      refine' SA.own (C := 82) (d := d) (fs := celF (T0 (a + (q' + 1) - 1)) (.ref NIL)) PySem.F.store_object ?hC ?hN ?hc ?hB (.inl hlst) rfl (by intro _ q; cases q) (by intro _ _ q; cases q) rfl .head (Nat.le_of_ble_eq_true rfl) rfl ?_
      walk_at "M.sa"
      refine SX.frzC (u := T0 (a + (q' + 1) - 1)) (v := .ref (Q a)) hd0 hlst fun g9 le9 hcl => ?_
      refine SX.frzL hpl fun g10 le10 hpls => ?_
      walk_at "M.go"
      intro t g11 le11 ht
      have le6x := le7.trans (le8.trans (le9.trans (le10.trans le11)))
      refine ⟨t, pl, tl, fun i => Q (spotN a (q' + 1) i), fun i => T0 (spotN a (q' + 1) i), fun i => τ0 (spotN a (q' + 1) i), a, q' + 1, kd, rfl, rfl, by walk_at "M.om", ht, ?_, ?_, ?_, fun i => ?_, fun i j e => ?_, by walk_at "M.om", by walk_at "M.om"⟩
      · rw [map_ext (f' := fun i => Value.ref (Q i)) (fun j hj => by rw [spotN_of hj])]; exact hpls.le le11
      · rw [map_ext (f' := T0) (fun j hj => by rw [spotN_of hj])]; exact htls.le le6x
      · refine ring_build (by walk_at "M.om") (by walk_at "M.om") (by walk_at "M.om") (fun i hi => ?_) (hcl.le (le10.trans le11)) hC.inj
        have := (hO.chn.cel i hi).le (le8.trans (le9.trans (le10.trans le11)))
        rwa [← hQP _ (by walk_at "M.om"), ← hQP _ (by walk_at "M.om")] at this
      · exact (hth5 _ (spotN_lt (by walk_at "M.om"))).le (le6.trans le6x)
      · have := hC.inj _ _ (spotN_lt (by walk_at "M.om")) (spotN_lt (by walk_at "M.om")) e
        rw [this]; exact ⟨rfl, rfl⟩
    · have c1 := hC8.cel s hlt
      refine CO.cellntNil c1 ?_
      walk_at "M.go"
      refine AT.cdrL (((hC.le le8).mono (n' := [(d, DicM (celF (T0 (a + (q' + 1) - 1)) (.ref NIL))), (pl, LstO ((List.range s).map (fun i => .ref (Q i)) ++ [.ref (Q s)])), DkL dk dl kd]) (fun p hp => by rw [List.mem_singleton.mp hp]; exact .head _)).cel s hlt) ?_
      walk_at "M.go"
      rw [map_snoc' (f := fun i => Value.ref (Q i))]
      exact ⟨j - 1, by walk_at "M.om", s + 1, by walk_at "M.om", rfl, rfl⟩
end
end Mine

local macro_rules | `(tactic| walk_at "M.e2") => `(tactic| ((with_reducible refine (?_ : Mine.EX _ _ _ _ (Expr.List _ _) _ _)); refine Mine.EX.lstF ?_))
namespace Mine
variable {c : Cx} {m : Loc} {g : View} {n : Led} {Φ : Post} {Ψ : XPost} {F : FPost}
theorem BO.powI {i e : Int} (k : Nat) {t u : Tok} (he : e = (k : Int)) (hk : k ≤ 1000000) (hi : i.natAbs < 2 ^ 64) (h : Φ (.int (i ^ k) 0) g n) : BO c m g n .Pow (.int i t) (.int e u) Φ Ψ := by
  subst he; exact BO.pow hk hi h
theorem CA.ftE {f : Value} {vs : List Value} {k : Nat} {P : Value → View → Prop} (F : FT c.w c.h₀ f vs g k P) (hk : k ≤ c.k) (h : ∀ v g', Le g g' → P v g' → Φ v g' n) : CA c m g n f vs Φ Ψ := CA.ft F hk h
def pick4 (z : Nat) : Nat := if z = 2 then 10 ^ 9 else if z = 3 then 10 ^ 30 else 0
section
variable {w : World} {h₀ : Heap} {dk dl rt pl tl : Addr} {us : List Value} {k : Nat} {P : Nat → Addr} {T : Nat → Value} {τ : Nat → Tag} {a q : Nat}
theorem by_place_fn (hD : Deck g dl us) (hR : RingV g rt pl tl P T τ a q) (hk : k ≤ 10000) :
    FN w h₀ (.ref 676) [.ref dk, .ref rt] g [DkL dk dl k] 7 (fun v g' n' => v = .bool true ∧ n' = [DkL dk dl (k + 2)]) (fun _ _ => False) := by
  refine' FN.of (ps := ["deck", "ring"]) (rest := ["pairs", "things", "ahead", "place", "spot"]) (ds := []) ?ho ?hcd ?hb ?hl ?hn ?hnd ?hc ?hco ?hg ?hk ?h
  (walk_at "M.ent"; intro c hw hh hsc hk' hn0 hcomp hcl hcd hnm G hb; subst hw hh; walk_at "M.ds")
  have ht := hR.tup
  have hq0 := hR.ring.m0
  have ha4 := hR.ha
  have hq5 := hR.hq
  walk_at "M.go"
  refine CA.draw 13 rfl hD .head (by walk_at "M.om") (by walk_at "M.om") (by walk_at "M.om") (by walk_at "M.om") fun z1 g1 hz1 le1 => ?_
  walk_at "M.go"
  refine BO.powI 9 rfl (by walk_at "M.om") (by decide) ?_
  walk_at "M.go"
  refine BO.powI 30 rfl (by walk_at "M.om") (by decide) ?_
  walk_at "M.go"
  intro t4 g2 le2 hl4
  walk_at "M.go"
  refine CA.draw 4 rfl ((hD.le le1).le le2) .head (by walk_at "M.om") (by walk_at "M.om") (by walk_at "M.om") (by walk_at "M.om") fun z2 g3 hz2 le3 => ?_
  refine SB.lst (k := (z2 : Int)) (.inl (hl4.le le3)) (by walk_at "M.om") (by walk_at "M.om") (u := .int (pick4 z2 : Nat) 0) ?_ ?_
  · rw [Int.toNat_natCast]
    have : z2 = 0 ∨ z2 = 1 ∨ z2 = 2 ∨ z2 = 3 := lt4 hz2
    rcases this with rfl | rfl | rfl | rfl <;> rfl
  generalize pick4 z2 = e
  walk_at "M.go"
  rw [show (z1 : Int) + (e : Int) = ((z1 + e : Nat) : Int) from by push_cast; rfl]
  generalize z1 + e = pc
  have hR3 := hR.le (le1.trans (le2.trans le3))
  refine CA.ft (spot_fn hR3) (by walk_at "M.om") fun v g4 le4 hv => ?_
  obtain ⟨u, rfl⟩ := hv
  have hR4 := hR3.le le4
  have hpl := hR4.pls
  walk_at "M.go"
  refine SB.lst (k := 0) (.inl hpl) (by walk_at "M.om") (by walk_at "M.om") (u := .ref (P 0)) (get_map (by walk_at "M.om")) ?_
  walk_at "M.go"
  intro l1 g5 le5 hl1
  walk_at "M.go"
  refine CA.fte (nthcdr_fn (hR4.le le5).ring hl1) (by walk_at "M.om") fun g6 le6 => ?_
  have hR6 := (hR4.le le5).le le6
  have hsp := spotN_lt (a := a) (k := pc) hq0
  walk_at "M.go"
  refine SB.lst (k := (spotN a q pc : Nat)) (.inl hR6.pls) (by walk_at "M.om") (by walk_at "M.om") (u := .ref (P (spotN a q pc))) (by rw [Int.toNat_natCast]; exact get_map hsp) ?_
  rw [spot_P hq0 hR6.ring.per]
  have hc6 := hR6.ring.cel pc
  refine CO.isnt hc6.nt hc6.nt.th ?_
  rw [decide_eq_true rfl]
  walk_at "M.go"
  refine SB.lst (k := 0) (.inl hR6.pls) (by walk_at "M.om") (by walk_at "M.om") (u := .ref (P 0)) (get_map (by walk_at "M.om")) ?_
  walk_at "M.go"
  intro l2 g7 le7 hl2
  walk_at "M.go"
  refine CA.fte (nth_fn (hR6.le le7).ring hl2) (by walk_at "M.om") fun g8 le8 => ?_
  have hR8 := (hR6.le le7).le le8
  walk_at "M.go"
  refine SB.lst (k := (spotN a q pc : Nat)) (.inl hR8.tls) (by walk_at "M.om") (by walk_at "M.om") (u := T (spotN a q pc)) (by rw [Int.toNat_natCast]; exact get_map hsp) ?_
  rw [hR8.Tspot]
  walk_at "M.go"
  refine CA.fte (is_the_fn (hR8.thg pc)) (by walk_at "M.om") fun g9 le9 => ?_
  have hR9 := hR8.le le9
  walk_at "M.go"
  refine SB.lst (k := 0) (.inl hR9.pls) (by walk_at "M.om") (by walk_at "M.om") (u := .ref (P 0)) (get_map (by walk_at "M.om")) ?_
  walk_at "M.go"
  intro l3 g10 le10 hl3
  walk_at "M.go"
  refine CA.fte (elt_fn (hR9.le le10).ring hl3) (by walk_at "M.om") fun g11 le11 => ?_
  have hR11 := (hR9.le le10).le le11
  walk_at "M.go"
  refine SB.lst (k := (spotN a q pc : Nat)) (.inl hR11.tls) (by walk_at "M.om") (by walk_at "M.om") (u := T (spotN a q pc)) (by rw [Int.toNat_natCast]; exact get_map hsp) ?_
  rw [hR11.Tspot]
  walk_at "M.go"
  refine CA.fte (is_the_fn (hR11.thg pc)) (by walk_at "M.om") fun g12 le12 => ?_
  walk_at "M.go"
  exact ⟨rfl, rfl⟩
end
end Mine

namespace Mine
variable {c : Cx} {m : Loc} {g : View} {n : Led} {Φ : Post} {Ψ : XPost} {F : FPost}
theorem St.change {h h' : Heap} {l l' : Led} (S : St c m g (l ++ n) h) (hsub : (addrs l').Sublist (addrs l)) (h0 : ∀ a ∈ addrs l, c.h0.get? a = none) (other : ∀ b o, b ∉ addrs l → h.get? b = some o → h'.get? b = some o)
    (hl : ∀ p ∈ l', ∃ o, h'.get? p.1 = some o ∧ p.2 o) : St c m g (l' ++ n) h' := by
  have ea : ∀ l n : Led, addrs (l ++ n) = addrs l ++ addrs n := fun l n => by simp only [addrs, List.map_append]
  have nd := S.sits.nd
  have off := S.sits.off
  have Ln := S.Ln
  have fn := S.fn
  rw [ea] at nd
  simp only [ea, List.mem_append] at off Ln fn
  have ndl := List.nodup_append.mp nd
  have hL : c.L ∉ addrs l := fun q => Ln (.inl q)
  have hmem : ∀ a, a ∈ addrs l' → a ∈ addrs l := fun a ha => hsub.subset ha
  refine { S with
    sits := ⟨fun b o e => other b o (fun q => by rw [off b (.inl q)] at e; cases e) (S.sits.vw b o e), fun p hp => ?_, fun a ha => ?_, ?_⟩
    loc := let ⟨m', ⟨o, es, ep, e, r⟩, y⟩ := S.loc; ⟨m', ⟨o, es, ep, other _ _ hL e, r⟩, y⟩
    Ln := fun q => ?_
    fr := FunFrames.upto (fun b hb o e => ⟨o.slots, other b o (fun q => fn b hb (.inl q)) e⟩) S.fr
    fn := fun a ha q => ?_
    keep := ⟨fun b o e => ?_, fun b o e hb => ?_⟩
    nnew := fun a ha => ?_
    pins := fun p hp => let ⟨⟨o, es, ep, e, r⟩, b, d⟩ := S.pins p hp; ⟨⟨o, es, ep, other _ _ (fun q => fn _ b (.inl q)) e, r⟩, b, d⟩ }
  · rcases List.mem_append.mp hp with hp | hp
    · exact hl p hp
    · obtain ⟨o, e, z⟩ := S.sits.ld p (List.mem_append_right _ hp)
      exact ⟨o, other _ _ (fun q => ndl.2.2 _ q _ (List.mem_map.mpr ⟨p, hp, rfl⟩) rfl) e, z⟩
  · rw [ea] at ha
    exact off a ((List.mem_append.mp ha).imp (hmem a) id)
  · rw [ea]
    exact List.nodup_append.mpr ⟨ndl.1.sublist hsub, ndl.2.1, fun a ha b hb => ndl.2.2 a (hmem a ha) b hb⟩
  · rw [ea] at q
    exact Ln ((List.mem_append.mp q).imp (hmem _) id)
  · rw [ea] at q
    exact fn a ha ((List.mem_append.mp q).imp (hmem _) id)
  · obtain ⟨o1, e1⟩ := S.keep.1 b o e
    exact ⟨o1, other b o1 (fun q => by rw [h0 b q] at e; cases e) e1⟩
  · have hne : b ∉ addrs l := fun q => by rw [h0 b q] at e; cases e
    obtain ⟨k1, sl, k2⟩ := S.keep.2 b o e hb
    exact ⟨fun hf => other b o hne (k1 hf), sl, other b _ hne k2⟩
  · rw [ea] at ha
    rcases List.mem_append.mp ha with ha | ha
    · exact .inr (h0 a (hmem a ha))
    · exact S.nnew a (by rw [ea]; exact List.mem_append_right _ ha)
abbrev IsTrip (h : Heap) (T : Addr) (a b d : Value) : Prop := h.get? T = some { cls := .type "tuple", data := .seq #[a, b, d] }
section
variable {prog : Program} {w : World} {A : Around} {E : Value → Shared → Prop} {s : Shared}
theorem updateSeq_trip {T : Addr} {a b d x : Value} {k : Nat} {Q : Unit → Shared → Prop} (hT : IsTrip s.heap T a b d)
    (h : ∀ h', h'.get? T = some { cls := .type "tuple", data := .seq ((#[a, b, d] : Array Value).setIfInBounds k x) } → Heap.SameBut T s.heap h' → Q () { s with heap := h' }) :
    wpAny (model prog w) A (updateSeq T (·.setIfInBounds k x)) Q E s := by
  refine wpAny_updateSeq hT rfl (h _ ?_ (Heap.SameBut.update ..))
  rw [Heap.get?_update_self _ hT rfl]
  simp [Obj.mapSeq]
theorem zip3_item {z TI TO i1 i2 i3 l1 l2 l3 : Addr} {k : Nat} {xs ys us : Array Value} {x y u a b d : Value} {Q : Value → Shared → Prop}
    (nd : [z, TO, i1, i2, i3].Nodup) (n1 : l1 ∉ [z, TO, i1, i2, i3]) (n2 : l2 ∉ [z, TO, i1, i2, i3]) (n3 : l3 ∉ [z, TO, i1, i2, i3])
    (hz : IsZip s.heap z TI TO .none) (hTI : s.heap.get? TI = some (tupO #[.ref i1, .ref i2, .ref i3] 0)) (hTO : IsTrip s.heap TO a b d)
    (h1 : s.heap.IsListIter i1 l1 k) (h2 : s.heap.IsListIter i2 l2 k) (h3 : s.heap.IsListIter i3 l3 k) (hl1 : s.heap.IsList l1 xs) (hl2 : s.heap.IsList l2 ys) (hl3 : s.heap.IsList l3 us) (hx : xs[k]? = some x) (hy : ys[k]? = some y) (hu : us[k]? = some u)
    (hQ : ∀ h', IsZip h' z TI TO (rawInt s.heap.objs.size) → IsTrip h' TO x y u → h'.IsListIter i1 l1 (k + 1) → h'.IsListIter i2 l2 (k + 1) → h'.IsListIter i3 l3 (k + 1) → IsTrip h' s.heap.objs.size x y u →
      (∀ c o, c ∉ [z, TO, i1, i2, i3] → s.heap.get? c = some o → h'.get? c = some o) → Q (.ref s.heap.objs.size) { s with heap := h' }) :
    wpAny (model prog w) A (Builtin.«zip.__next__» ⟨[.ref z], []⟩) (fun fin s' => ∃ v, fin = .done (.ret v) ∧ Q v s') E s := by
  simp only [List.nodup_cons, List.mem_cons, not_or, List.not_mem_nil, not_false_eq_true, List.nodup_nil, and_true] at nd n1 n2 n3
  obtain ⟨⟨zTO, zi1, zi2, zi3⟩, ⟨Oi1, Oi2, Oi3⟩, ⟨i12, i13⟩, i23⟩ := nd
  obtain ⟨a1, a2, a3, a4, a5⟩ := n1
  obtain ⟨b1, b2, b3, b4, b5⟩ := n2
  obtain ⟨c1, c2, c3, c4, c5⟩ := n3
  show wpAny _ _ (field (.ref z) 2 >>= _) _ _ _
  refine wpAny_bind (wpAny_field hz rfl (x := .bool false) rfl ?_)
  show wpAny _ _ (field (.ref z) 3 >>= _) _ _ _
  refine wpAny_bind (wpAny_field hz rfl (x := .ref TI) rfl ?_)
  refine wpAny_bind (wpAny_seqItems hTI rfl ?_)
  show wpAny _ _ (Builtin.SmallTypes.ownedTupleIsFree (.ref z) >>= _) _ _ _
  refine wpAny_bind ?_
  unfold Builtin.SmallTypes.ownedTupleIsFree
  refine wpAny_bind (wpAny_field hz rfl (x := .none) rfl (wpAny_pure ?_))
  simp only [if_true]
  refine wpAny_bind (wpAny_rule ?_)
  refine wpAny_bind (wpAny_field hz rfl (x := .ref TO) rfl ?_)
  refine wpAny_bind (wpAny_setField_rec hz (by simp) fun h₁ hz₁ hs₁ => ?_)
  replace hz₁ : IsZip h₁ z TI TO .ellipsis := hz₁
  refine wpAny_bind ?_
  simp only [List.zipIdx_cons, List.zipIdx_nil, List.forIn_cons, List.forIn_nil]
  refine wpAny_bind (wpAny_bind (wpAny_onRaise ?_))
  show wpAny _ _ (Builtin.SmallTypes.nextOf (.ref i1) >>= _) _ _ _
  refine wpAny_bind (wpAny_nextOf_list_item (h1.extBut hs₁.extBut (Ne.symm zi1)) (hl1.extBut hs₁.extBut a1) hx fun h₂ h1₂ hs₂ => wpAny_pure ?_)
  have hTO₂ : IsTrip h₂ TO a b d := hs₂.extBut _ _ Oi1 (hs₁.extBut _ _ (Ne.symm zTO) hTO)
  refine wpAny_bind (wpAny_seqItems hTO₂ rfl ?_)
  refine wpAny_bind (updateSeq_trip hTO₂ fun h₃ hTO₃ hs₃ => ?_)
  replace hTO₃ : IsTrip h₃ TO x b d := hTO₃
  refine wpAny_bind (wpAny_letGo (wpAny_pure ?_))
  have k13 : ∀ c o, c ≠ z → c ≠ TO → c ≠ i1 → s.heap.get? c = some o → h₃.get? c = some o := fun c o q1 q2 q3 e => hs₃.extBut _ _ q2 (hs₂.extBut _ _ q3 (hs₁.extBut _ _ q1 e))
  refine wpAny_bind (wpAny_bind (wpAny_onRaise ?_))
  show wpAny _ _ (Builtin.SmallTypes.nextOf (.ref i2) >>= _) _ _ _
  refine wpAny_bind (wpAny_nextOf_list_item (h2.at fun o e => k13 _ o (Ne.symm zi2) (Ne.symm Oi2) (Ne.symm i12) e) (hl2.at fun o e => k13 _ o b1 b2 b3 e) hy fun h₄ h2₄ hs₄ => wpAny_pure ?_)
  have hTO₄ : IsTrip h₄ TO x b d := hs₄.extBut _ _ Oi2 hTO₃
  refine wpAny_bind (wpAny_seqItems hTO₄ rfl ?_)
  refine wpAny_bind (updateSeq_trip hTO₄ fun h₅ hTO₅ hs₅ => ?_)
  replace hTO₅ : IsTrip h₅ TO x y d := hTO₅
  refine wpAny_bind (wpAny_letGo (wpAny_pure ?_))
  have k15 : ∀ c o, c ≠ z → c ≠ TO → c ≠ i1 → c ≠ i2 → s.heap.get? c = some o → h₅.get? c = some o := fun c o q1 q2 q3 q4 e => hs₅.extBut _ _ q2 (hs₄.extBut _ _ q4 (k13 c o q1 q2 q3 e))
  refine wpAny_bind (wpAny_bind (wpAny_onRaise ?_))
  show wpAny _ _ (Builtin.SmallTypes.nextOf (.ref i3) >>= _) _ _ _
  refine wpAny_bind (wpAny_nextOf_list_item (h3.at fun o e => k15 _ o (Ne.symm zi3) (Ne.symm Oi3) (Ne.symm i13) (Ne.symm i23) e) (hl3.at fun o e => k15 _ o c1 c2 c3 c4 e) hu fun h₆ h3₆ hs₆ => wpAny_pure ?_)
  have hTO₆ : IsTrip h₆ TO x y d := hs₆.extBut _ _ Oi3 hTO₅
  refine wpAny_bind (wpAny_seqItems hTO₆ rfl ?_)
  refine wpAny_bind (updateSeq_trip hTO₆ fun h₇ hTO₇ hs₇ => ?_)
  replace hTO₇ : IsTrip h₇ TO x y u := hTO₇
  refine wpAny_bind (wpAny_letGo (wpAny_pure (wpAny_pure ?_)))
  have k17 : ∀ c o, c ≠ z → c ≠ TO → c ≠ i1 → c ≠ i2 → c ≠ i3 → s.heap.get? c = some o → h₇.get? c = some o := fun c o q1 q2 q3 q4 q5 e => hs₇.extBut _ _ q2 (hs₆.extBut _ _ q5 (k15 c o q1 q2 q3 q4 e))
  refine wpAny_bind (wpAny_seqItems hTO₇ rfl ?_)
  refine wpAny_bind (wpAny_newTuple ?_)
  have hsz : h₇.objs.size = s.heap.objs.size := by rw [hs₇.1, hs₆.1, hs₅.1, hs₄.1, hs₃.1, hs₂.1, hs₁.1]
  have hz₇ : IsZip h₇ z TI TO .ellipsis := hs₇.extBut _ _ zTO (hs₆.extBut _ _ zi3 (hs₅.extBut _ _ zTO (hs₄.extBut _ _ zi2 (hs₃.extBut _ _ zTO (hs₂.extBut _ _ zi1 hz₁)))))
  have h1₇ : h₇.IsListIter i1 l1 (k + 1) := h1₂.at fun o e => hs₇.extBut _ _ (Ne.symm Oi1) (hs₆.extBut _ _ i13 (hs₅.extBut _ _ (Ne.symm Oi1) (hs₄.extBut _ _ i12 (hs₃.extBut _ _ (Ne.symm Oi1) e))))
  have h2₇ : h₇.IsListIter i2 l2 (k + 1) := h2₄.at fun o e => hs₇.extBut _ _ (Ne.symm Oi2) (hs₆.extBut _ _ i23 (hs₅.extBut _ _ (Ne.symm Oi2) e))
  have h3₇ : h₇.IsListIter i3 l3 (k + 1) := h3₆.at fun o e => hs₇.extBut _ _ (Ne.symm Oi3) e
  have hzlt : z < h₇.objs.size := Heap.lt_size hz₇
  show wpAny _ _ (Builtin.SmallTypes.ownedTupleHandOut (.ref z) (.ref h₇.objs.size) >>= _) _ _ _
  refine wpAny_bind ?_
  unfold Builtin.SmallTypes.ownedTupleHandOut
  have hz₈ : IsZip (h₇.push { cls := .type "tuple", data := .seq #[x, y, u] }) z TI TO .ellipsis := Heap.get?_push_of_some _ hz₇
  refine wpAny_bind (wpAny_setField_rec hz₈ (by simp) fun h₉ hz₉ hs₉ => ?_)
  replace hz₉ : IsZip h₉ z TI TO (rawInt h₇.objs.size) := hz₉
  refine wpAny_setField_rec hz₉ (by simp) fun hA hzA hsA => ?_
  replace hzA : IsZip hA z TI TO (rawInt h₇.objs.size) := hzA
  have up : ∀ c o, c ≠ z → h₇.get? c = some o → hA.get? c = some o := fun c o c1 e => hsA.extBut _ _ c1 (hs₉.extBut _ _ c1 (Heap.get?_push_of_some _ e))
  have hTA : IsTrip hA h₇.objs.size x y u := hsA.extBut _ _ (Nat.ne_of_gt hzlt) (hs₉.extBut _ _ (Nat.ne_of_gt hzlt) (Heap.get?_push_size _ rfl))
  rw [hsz] at hzA hTA
  refine wpAny_pure ⟨_, rfl, ?_⟩
  show Q (.ref h₇.objs.size) _
  rw [hsz]
  refine hQ hA hzA (up _ _ (Ne.symm zTO) hTO₇) (h1₇.at fun o e => up _ o (Ne.symm zi1) e) (h2₇.at fun o e => up _ o (Ne.symm zi2) e) (h3₇.at fun o e => up _ o (Ne.symm zi3) e) hTA fun c o hc e => ?_
  simp only [List.mem_cons, not_or, List.not_mem_nil, not_false_eq_true, and_true] at hc
  exact up c o hc.1 (k17 c o hc.1 hc.2.1 hc.2.2.1 hc.2.2.2.1 hc.2.2.2.2 e)
theorem zip3_end {z TI TO i1 i2 i3 l1 : Addr} {k : Nat} {xs : Array Value} {Q : Fin → Shared → Prop} (hh : A.handled = none) (nd : [z, TO, i1, i2, i3].Nodup) (n1 : l1 ∉ [z, TO, i1, i2, i3])
    (hz : IsZip s.heap z TI TO .none) (hTI : s.heap.get? TI = some (tupO #[.ref i1, .ref i2, .ref i3] 0))
    (h1 : s.heap.IsListIter i1 l1 k) (hl1 : s.heap.IsList l1 xs) (hend : xs[k]? = none)
    (hE : ∀ h' e, (∀ c o, c ∉ [z, TO, i1, i2, i3] → s.heap.get? c = some o → h'.get? c = some o) → (∃ o, h'.get? e = some o ∧ o.cls = .type "StopIteration") → E (.ref e) { s with heap := h' }) :
    wpAny (model prog w) A (Builtin.«zip.__next__» ⟨[.ref z], []⟩) Q E s := by
  simp only [List.nodup_cons, List.mem_cons, not_or, List.not_mem_nil, not_false_eq_true, List.nodup_nil, and_true] at nd n1
  obtain ⟨⟨zTO, zi1, zi2, zi3⟩, ⟨Oi1, Oi2, Oi3⟩, ⟨i12, i13⟩, i23⟩ := nd
  obtain ⟨a1, a2, a3, a4, a5⟩ := n1
  show wpAny _ _ (field (.ref z) 2 >>= _) _ _ _
  refine wpAny_bind (wpAny_field hz rfl (x := .bool false) rfl ?_)
  show wpAny _ _ (field (.ref z) 3 >>= _) _ _ _
  refine wpAny_bind (wpAny_field hz rfl (x := .ref TI) rfl ?_)
  refine wpAny_bind (wpAny_seqItems hTI rfl ?_)
  show wpAny _ _ (Builtin.SmallTypes.ownedTupleIsFree (.ref z) >>= _) _ _ _
  refine wpAny_bind ?_
  unfold Builtin.SmallTypes.ownedTupleIsFree
  refine wpAny_bind (wpAny_field hz rfl (x := .none) rfl (wpAny_pure ?_))
  simp only [if_true]
  refine wpAny_bind (wpAny_rule ?_)
  refine wpAny_bind (wpAny_field hz rfl (x := .ref TO) rfl ?_)
  refine wpAny_bind (wpAny_setField_rec hz (by simp) fun h₁ hz₁ hs₁ => ?_)
  replace hz₁ : IsZip h₁ z TI TO .ellipsis := hz₁
  refine wpAny_bind ?_
  simp only [List.zipIdx_cons, List.zipIdx_nil, List.forIn_cons, List.forIn_nil]
  refine wpAny_bind (wpAny_bind (wpAny_onRaise ?_))
  show wpAny _ _ (Builtin.SmallTypes.nextOf (.ref i1) >>= _) _ _ _
  refine wpAny_bind (wpAny_nextOf_list_end hh (h1.extBut hs₁.extBut (Ne.symm zi1)) (hl1.extBut hs₁.extBut a1) hend fun h₂ e hs₂ he => ?_)
  obtain ⟨oe, hoe, hce⟩ := he
  have hz₂ : IsZip h₂ z TI TO .ellipsis := hs₂ _ _ zi1 hz₁
  have hez : e ≠ z := fun x => by subst x; rw [hz₂] at hoe; cases hoe; simp at hce
  refine wpAny_setField_rec hz₂ (by simp) fun h₃ _ hs₃ => hE h₃ e (fun c o hc x => ?_) ⟨oe, hs₃.extBut _ _ hez hoe, hce⟩
  simp only [List.mem_cons, not_or, List.not_mem_nil, not_false_eq_true, and_true] at hc
  exact hs₃.extBut _ _ hc.1 (hs₂ _ _ hc.2.2.1 (hs₁.extBut _ _ hc.1 x))
end
end Mine

namespace Mine
variable {c : Cx} {m : Loc} {g : View} {n : Led} {Φ : Post} {Ψ : XPost} {F : FPost}
theorem typeCall_zip_3 (a b d : Value) : checkTypeCall "zip" ⟨[a, b, d], []⟩ = pure () := by kernel_rfl
theorem newCall_zip_3 (a b d : Value) : checkBuiltinCall "zip.__new__" ⟨[.type "zip", a, b, d], []⟩ = pure () := by kernel_rfl
theorem args_object_init_4 (a b d e : Value) : argsOk "object.__init__" ⟨[a, b, d, e], []⟩ := by
  unfold argsOk; rw [signature?_of (id := "object.__init__") (n := ['_', '_', 't', 'i', 'n', 'i', '_', '_']) (o := ['t', 'c', 'e', 'j', 'b', 'o']) (by kernel_rfl) PySem.F.owner_object]; kernel_rfl
def itO (l : Addr) : Obj := { cls := .type "list_iterator", data := .fields #[.ref l, .int 0 0] }
def zH3 (h : Heap) (l1 l2 l3 : Addr) : Heap := ((h.push (itO l1)).push (itO l2)).push (itO l3)
def zH4 (h : Heap) (l1 l2 l3 : Addr) : Heap := (zH3 h l1 l2 l3).push { cls := .type "tuple", data := .seq #[.ref h.objs.size, .ref (h.push (itO l1)).objs.size, .ref ((h.push (itO l1)).push (itO l2)).objs.size] }
def zH5 (h : Heap) (l1 l2 l3 : Addr) : Heap := (zH4 h l1 l2 l3).push { cls := .type "tuple", data := .seq #[.none, .none, .none] }
def zH6 (h : Heap) (l1 l2 l3 : Addr) : Heap := (zH5 h l1 l2 l3).push { cls := .type "zip", data := .fields #[.none, .bool false, .bool false, .ref (zH3 h l1 l2 l3).objs.size, .ref (zH4 h l1 l2 l3).objs.size] }
theorem meets_zip_new3 (l1 l2 l3 : Addr) (xs ys us : Array Value) :
    Meets (Builtin.«zip.__new__» ⟨[.type "zip", .ref l1, .ref l2, .ref l3], []⟩) (fun _ R s => s.heap.IsList l1 xs ∧ s.heap.IsList l2 ys ∧ s.heap.IsList l3 us ∧
      R (.ok (.ret (.ref (zH5 s.heap l1 l2 l3).objs.size))) { s with heap := zH6 s.heap l1 l2 l3 }) :=
  .of_wp fun prog w A R s h => by
    obtain ⟨hp, g, d, tk, os⟩ := s; obtain ⟨hl1, hl2, hl3, h⟩ := h
    have hsub := sub_zip
    have hL1 : Heap.IsList (Shared.heap ⟨hp, g, d, tk, os⟩) l1 xs := hl1
    have hL2 : Heap.IsList (Shared.heap ⟨hp.push { cls := .type "list_iterator", data := .fields #[.ref l1, .int 0 0] }, g, d, tk, os⟩) l2 ys := Heap.IsList.push hl2 _
    have hL3 : Heap.IsList (Shared.heap ⟨(hp.push { cls := .type "list_iterator", data := .fields #[.ref l1, .int 0 0] }).push { cls := .type "list_iterator", data := .fields #[.ref l2, .int 0 0] }, g, d, tk, os⟩) l3 us := Heap.IsList.push (Heap.IsList.push hl3 _) _
    wp_walk using wpAny_pyIter_list hL1, wpAny_pyIter_list hL2, wpAny_pyIter_list hL3
    exact ⟨_, rfl, h⟩
def ZipO (TI TO : Addr) (o : Obj) : Prop := o = { cls := .type "zip", dict := none, data := .fields #[.none, .bool false, .bool false, .ref TI, .ref TO], slots := #[] }
def TripO (o : Obj) : Prop := ∃ a b d, o = { cls := .type "tuple", data := .seq #[a, b, d] }
abbrev ZipL (z TI TO i1 i2 i3 l1 l2 l3 : Addr) (i : Nat) : Led := [(z, ZipO TI TO), (TO, TripO), (i1, ItL l1 i), (i2, ItL l2 i), (i3, ItL l3 i)]
theorem CA.zip3 {l1 l2 l3 : Addr} {us vs ws : List Value} (h1 : LAt g n l1 us) (h2 : LAt g n l2 vs) (h3 : LAt g n l3 ws)
    (h : ∀ z TI TO i1 i2 i3 g1, Le g g1 → g1 TI = some (tupO #[.ref i1, .ref i2, .ref i3] 0) → (∀ a ∈ [z, TO, i1, i2, i3], c.h0.get? a = none) → Φ (.ref z) g1 (ZipL z TI TO i1 i2 i3 l1 l2 l3 0 ++ n)) :
    CA c m g n (.type "zip") [.ref l1, .ref l2, .ref l3] Φ Ψ := fun vs' hv s Q E S hQ hE => by
  cases hv with | cons a1 a2 => cases a2 with | cons a3 a4 => cases a4 with | cons a5 a6 =>
    cases a6; obtain rfl := a1.ref; obtain rfl := a3.ref; obtain rfl := a5.ref
    obtain ⟨xs, hL1, _⟩ := h1.isL S
    obtain ⟨ys, hL2, _⟩ := h2.isL S
    obtain ⟨zs, hL3, _⟩ := h3.isL S
    refine callType_new PySem.F.called_zip (by decide) (typeCall_zip_3 _ _ _) (newCall_zip_3 _ _ _) (fun obj => args_object_init_4 obj _ _ _) PySem.F.entry_zip_new
      (meets_zip_new3 l1 l2 l3 xs ys zs) ⟨hL1, hL2, hL3, ?_⟩
    have fr : ∀ {g n h}, St c m g n h → c.h0.get? h.objs.size = none := fun S => S.keep.old (Heap.get?_fresh _)
    have f1 := fr S
    have S1 := S.newOwn (P := ItL l1 0) (itO l1) ⟨rfl, rfl⟩
    have f2 := fr S1
    have S2 := S1.newOwn (P := ItL l2 0) (itO l2) ⟨rfl, rfl⟩
    have f3 := fr S2
    have S3 := S2.newOwn (P := ItL l3 0) (itO l3) ⟨rfl, rfl⟩
    obtain ⟨S4, le4⟩ := S3.newObj { cls := .type "tuple", data := .seq #[.ref s.heap.objs.size, .ref (s.heap.push (itO l1)).objs.size, .ref ((s.heap.push (itO l1)).push (itO l2)).objs.size] }
    have f5 := fr S4
    have S5 := S4.newOwn (P := TripO) { cls := .type "tuple", data := .seq #[.none, .none, .none] } ⟨_, _, _, rfl⟩
    have f6 := fr S5
    have S6 := S5.newOwn (P := ZipO (zH3 s.heap l1 l2 l3).objs.size (zH4 s.heap l1 l2 l3).objs.size) { cls := .type "zip", data := .fields #[.none, .bool false, .bool false, .ref (zH3 s.heap l1 l2 l3).objs.size, .ref (zH4 s.heap l1 l2 l3).objs.size] } rfl
    refine ⟨⟨_, Heap.get?_push_size _ rfl, rfl⟩, ?_⟩
    refine hQ _ _ (ZipL (zH5 s.heap l1 l2 l3).objs.size (zH3 s.heap l1 l2 l3).objs.size (zH4 s.heap l1 l2 l3).objs.size s.heap.objs.size (s.heap.push (itO l1)).objs.size ((s.heap.push (itO l1)).push (itO l2)).objs.size l1 l2 l3 0 ++ n) _ s.toks ⟨_, Is.rfl' _, h _ (zH3 s.heap l1 l2 l3).objs.size (zH4 s.heap l1 l2 l3).objs.size _ _ _ _ le4 gset_self (fun a ha => ?_)⟩ le4 (S6.perm (.cons _ (.cons _ ((List.reverse_perm [_, _, _]).append_right n))))
    rcases List.mem_cons.mp ha with rfl | ha
    · exact f6
    rcases List.mem_cons.mp ha with rfl | ha
    · exact f5
    rcases List.mem_cons.mp ha with rfl | ha
    · exact f1
    rcases List.mem_cons.mp ha with rfl | ha
    · exact f2
    rcases List.mem_cons.mp ha with rfl | ha
    · exact f3
    · cases ha
end Mine

namespace Mine
variable {c : Cx} {m : Loc} {g : View} {n : Led} {Φ : Post} {Ψ : XPost} {F : FPost}
theorem AG.tup {elts : List Expr} {k : Nat} {tpos : Pos} {t : Addr} {us : List Value} {m' : Loc} {K : Loc → Prop} (ht : Tup g t us) (hl : us.length = (nmsOf elts).length) (P : PutAll ((nmsOf elts).zip us) m m') (h : K m')
    (hn : elts.map (fun e => match e with | .Name x _ => some x | _ => none) = (nmsOf elts).map some := by rfl)
    (hst : (assignEach elts c.env).findIdx? (·.1) = none := by rfl) (he : (assignEach elts c.env).map (·.2) = elts.map (fun e v => PySem.assign e c.env v) := by rfl) : AG c m g n (.Tuple elts k tpos) (.ref t) K := fun u' hu s Q E S hQ => by
  obtain rfl := hu.ref
  obtain ⟨its, hT, hI⟩ := ht.isTup S
  have hle : elts.length = (nmsOf elts).length := by have := congrArg List.length hn; simpa using this
  have hlen : (assignEach elts c.env).length = its.size := by
    have := congrArg List.length he
    rw [List.length_map, List.length_map] at this
    rw [this, hle, ← hl, hI.length]; simp
  refine assign_Tuple_tuple S.hh hT hlen hst fun h' hx => ?_
  rw [he]
  refine putAll_sig (s := { s with heap := h' }) P (by rw [List.map_snd_zip (by walk_at "M.om")]; exact hI) (by simp [hle, hl]) ?_ (S.extBut hx) fun h'' tk' S'' => hQ m' h'' tk' h S''
  intro i f x v e1 e2 s v' Q E hh
  have h3 : ((nmsOf elts).zip us)[i]? = some (x, v) := e2
  have h4 : (nmsOf elts)[i]? = some x := by
    have : (((nmsOf elts).zip us).map (·.1))[i]? = some x := by rw [List.getElem?_map, h3]; rfl
    rwa [List.map_fst_zip (by walk_at "M.om")] at this
  have h5 : (elts.map (fun e => match e with | .Name x _ => some x | _ => none))[i]? = some (some x) := by rw [hn, List.getElem?_map, h4]; rfl
  rw [List.getElem?_map] at h5 e1
  cases q : elts[i]? with
  | none => rw [q] at h5; cases h5
  | some e =>
    rw [q] at h5 e1
    have h6 := Option.some.inj h5
    have h7 := Option.some.inj e1
    subst h7
    cases e <;> first | (cases h6; exact PyProof.Rows.assign_Name hh) | cases h6
theorem St.offL {h : Heap} {a : Addr} {o : Obj} (S : St c m g n h) (e : g a = some o) : a ∉ addrs n := fun q => by rw [S.sits.off a q] at e; cases e
theorem Iter.zip3 {elts : List Expr} {k : Nat} {tpos : Pos} {z TI TO i1 i2 i3 l1 l2 l3 : Addr} {N : Nat} {F1 F2 F3 : Nat → Value} {K : KI} (h1 : Lst g l1 ((List.range N).map F1)) (h2 : Lst g l2 ((List.range N).map F2)) (h3 : Lst g l3 ((List.range N).map F3))
    (hTI : g TI = some (tupO #[.ref i1, .ref i2, .ref i3] 0)) (h0 : ∀ a ∈ [z, TO, i1, i2, i3], c.h0.get? a = none)
    (h : K (ZipL z TI TO i1 i2 i3 l1 l2 l3) N (fun i u g => ∃ t, u = .ref t ∧ Tup g t [F1 i, F2 i, F3 i]) (fun g _ => Lst g l1 ((List.range N).map F1) ∧ Lst g l2 ((List.range N).map F2) ∧ Lst g l3 ((List.range N).map F3) ∧ g TI = some (tupO #[.ref i1, .ref i2, .ref i3] 0)) g n) :
    Iter c m g (ZipL z TI TO i1 i2 i3 l1 l2 l3 0 ++ n) (.Tuple elts k tpos) (.ref z) K Ψ := fun v' hv s Q E S hQ hE => by
  obtain rfl := hv.ref
  obtain ⟨oz, hoz, rfl⟩ := S.sits.ld (z, ZipO TI TO) (.head _)
  refine wpAny_pyIter_zip (TI := TI) (TO := TO) (f0 := .none) hoz (hQ _ g _ s.heap s.toks ⟨z, ZipL z TI TO i1 i2 i3 l1 l2 l3, N, _, _, n, rfl, rfl, fun c m g n s Q E S hQ => ?_, fun c hc0 i m g n n' hi hJ hsub Ψ => ⟨fun hlt => ?_, fun e => ?_⟩, h⟩ (Le.rfl' g) S)
  · obtain ⟨oz, hoz, rfl⟩ := S.sits.ld (z, ZipO TI TO) (.head _)
    exact wpAny_pyIter_zip (TI := TI) (TO := TO) (f0 := .none) hoz hQ
  · intro s Q E S hQ hE
    obtain ⟨j1, j2, j3, jT⟩ := hJ
    obtain ⟨oz, hoz, rfl⟩ := S.sits.ld (z, ZipO TI TO) (.head _)
    obtain ⟨oT, hoT, a, b, d, rfl⟩ := S.sits.ld (TO, TripO) (.tail _ (.head _))
    obtain ⟨o1, ho1, q1⟩ := S.sits.ld (i1, ItL l1 i) (.tail _ (.tail _ (.head _)))
    obtain ⟨o2, ho2, q2⟩ := S.sits.ld (i2, ItL l2 i) (.tail _ (.tail _ (.tail _ (.head _))))
    obtain ⟨o3, ho3, q3⟩ := S.sits.ld (i3, ItL l3 i) (.tail _ (.tail _ (.tail _ (.tail _ (.head _)))))
    obtain ⟨xs, hL1, hA1, e1⟩ := LAt.isL (.inl j1) S
    obtain ⟨ys, hL2, hA2, e2⟩ := LAt.isL (.inl j2) S
    obtain ⟨zs, hL3, hA3, e3⟩ := LAt.isL (.inl j3) S
    obtain ⟨x, hx, ix⟩ := hA1.get (get_map hlt)
    obtain ⟨y, hy, iy⟩ := hA2.get (get_map hlt)
    obtain ⟨u, hu, iu⟩ := hA3.get (get_map hlt)
    rw [Array.getElem?_toList] at hx hy hu
    have nd : [z, TO, i1, i2, i3].Nodup := (List.nodup_append.mp (show ([z, TO, i1, i2, i3] ++ addrs n).Nodup from S.sits.nd)).1
    have off : ∀ {l : Addr} {us : List Value}, Lst g l us → l ∉ [z, TO, i1, i2, i3] := fun {l us} hl q => by
      obtain ⟨o, e, _⟩ := hl
      exact S.offL e (show l ∈ [z, TO, i1, i2, i3] ++ addrs n from List.mem_append_left _ q)
    have hfr := Heap.get?_fresh s.heap
    have hT : s.TypeIs (.ref z) "zip" := ⟨_, hoz, rfl⟩
    unfold pyNext
    refine wpAny_bind (wpAny_attempt (wpAny_callSpecial?_slot (name := Str.ofString "__next__") hT PySem.F.slot_zip_next (wpAny_call_entry PySem.F.slot_zip_next hT PySem.F.entry_zip_next
      (zip3_item nd (off j1) (off j2) (off j3) hoz (S.sits.vw _ _ jT) hoT ⟨o1, ho1, q1⟩ ⟨o2, ho2, q2⟩ ⟨o3, ho3, q3⟩ hL1 hL2 hL3 hx hy hu fun h' a1 a2 a3 a4 a5 a6 a7 => wpAny_pure ?_) (PySem.F.args_zip_next_1 _))))
    have S1 : St c m g ([(z, fun o => o = { cls := .type "zip", dict := none, data := .fields #[rawInt s.heap.objs.size, .bool false, .bool false, .ref TI, .ref TO], slots := #[] }), (TO, TripO), (i1, ItL l1 (i + 1)), (i2, ItL l2 (i + 1)), (i3, ItL l3 (i + 1))] ++ n) h' :=
      S.change (l := ZipL z TI TO i1 i2 i3 l1 l2 l3 i) (List.Sublist.refl _) (by rw [hc0]; exact h0) (fun b o hb e => a7 b o hb e) (fun p hp => by
        rcases List.mem_cons.mp hp with rfl | hp
        · exact ⟨_, a1, rfl⟩
        rcases List.mem_cons.mp hp with rfl | hp
        · exact ⟨_, a2, _, _, _, rfl⟩
        rcases List.mem_cons.mp hp with rfl | hp
        · exact a3
        rcases List.mem_cons.mp hp with rfl | hp
        · exact a4
        rcases List.mem_cons.mp hp with rfl | hp
        · exact a5
        · cases hp)
    have fT : s.heap.objs.size ∉ [z, TO, i1, i2, i3] ++ addrs n := S.notin_n hfr
    obtain ⟨le2, S2⟩ := S1.seen a6 (S.notin_g hfr) fT (S.ne_L hfr) (S.notin_fs hfr) (S.keep.old hfr)
    refine hQ _ _ _ h' s.toks ⟨.ref s.heap.objs.size, _, rfl, rfl, ⟨_, rfl, _, gset_self, _, _, rfl, .cons ix (.cons iy (.cons iu .nil))⟩, ?_⟩ le2 S2
    intro s Q E S hQ hE
    obtain ⟨oz, hoz, rfl⟩ := S.sits.ld _ (.head _)
    dsimp only at hoz
    refine wpAny_letOwnedTupleGo_zip hoz fun h'' b1 b2 => ?_
    exact hQ () _ _ h'' s.toks ⟨rfl, rfl⟩ (Le.rfl' _) (S.swap .head b2 b1 rfl)
  · intro s Q E S hQ hE
    subst e
    obtain ⟨j1, j2, j3, jT⟩ := hJ
    obtain ⟨oz, hoz, rfl⟩ := S.sits.ld (z, ZipO TI TO) (.head _)
    obtain ⟨o1, ho1, q1⟩ := S.sits.ld (i1, ItL l1 i) (.tail _ (.tail _ (.head _)))
    obtain ⟨xs, hL1, hA1, e1⟩ := LAt.isL (.inl j1) S
    have nd : [z, TO, i1, i2, i3].Nodup := (List.nodup_append.mp (show ([z, TO, i1, i2, i3] ++ addrs n).Nodup from S.sits.nd)).1
    have n1 : l1 ∉ [z, TO, i1, i2, i3] := fun q => by
      obtain ⟨o, e, _⟩ := j1
      exact S.offL e (show l1 ∈ [z, TO, i1, i2, i3] ++ addrs n from List.mem_append_left _ q)
    have hT : s.TypeIs (.ref z) "zip" := ⟨_, hoz, rfl⟩
    unfold pyNext
    refine wpAny_bind (wpAny_attempt (wpAny_callSpecial?_slot (name := Str.ofString "__next__") hT PySem.F.slot_zip_next (wpAny_call_entry PySem.F.slot_zip_next hT PySem.F.entry_zip_next
      (zip3_end S.hh nd n1 hoz (S.sits.vw _ _ jT) ⟨o1, ho1, q1⟩ hL1 (by rw [Array.getElem?_eq_none]; rw [← e1]; simp) fun h' e hk he => ?_) (PySem.F.args_zip_next_1 _))))
    obtain ⟨o, ho, hc⟩ := he
    refine wpAny_bind (wpAny_isInstance (T := "StopIteration") (b := true) ⟨o, ho, hc⟩ isSubtype_stop ?_)
    refine wpAny_pure (hQ none g n h' s.toks ⟨rfl, rfl⟩ (Le.rfl' g) ?_)
    exact S.change (l := ZipL z TI TO i1 i2 i3 l1 l2 l3 i) (l' := []) (List.nil_sublist _) (by rw [hc0]; exact h0) (fun b o hb e => hk b o hb e) (fun p hp => nomatch hp)
end Mine

namespace Mine
variable {c : Cx} {m : Loc} {g : View} {n : Led} {Φ : Post} {Ψ : XPost} {F : FPost}
theorem AllIs.drop {us vs : List Value} (h : AllIs us vs) : ∀ j, AllIs (us.drop j) (vs.drop j) := by
  induction h with
  | nil => intro j; simp; exact .nil
  | cons h0 h1 ih =>
    intro j
    cases j with
    | zero => exact .cons h0 h1
    | succ j => exact ih j
theorem AllIs.take {us vs : List Value} (h : AllIs us vs) : ∀ j, AllIs (us.take j) (vs.take j) := by
  induction h with
  | nil => intro j; simp; exact .nil
  | cons h0 h1 ih =>
    intro j
    cases j with
    | zero => exact .nil
    | succ j => exact .cons h0 (ih j)
theorem pick_from (its : Array Value) (x : Nat) : slicePick its (some (x : Int)) none none = (its.toList.drop x).toArray := by
  have e : sliceBounds (some (x : Int)) none none its.size = (((min x its.size : Nat) : Int), ((its.size : Nat) : Int), 1) := by
    simp only [sliceBounds, Option.getD_none, show (1 : Int) > 0 by decide, if_true, if_neg (show ¬ ((x : Int) < 0) by walk_at "M.om")]
    congr 1
    omega
  rw [kmk_pick_nat _ e]
  have hs : its.size = its.toList.length := by simp
  rw [hs, kmk_drop_min, List.take_of_length_le (by rw [List.length_drop]; omega)]
theorem pick_upto (its : Array Value) (y : Nat) : slicePick its none (some (y : Int)) none = (its.toList.take y).toArray := by
  have e : sliceBounds none (some (y : Int)) none its.size = (((0 : Nat) : Int), ((min y its.size : Nat) : Int), 1) := by
    simp only [sliceBounds, Option.getD_none, show (1 : Int) > 0 by decide, if_true, if_neg (show ¬ ((y : Int) < 0) by walk_at "M.om")]
    congr 1
    congr 1
    omega
  rw [kmk_pick_nat _ e, List.drop_zero, Nat.sub_zero, show its.size = its.toList.length from by simp, kmk_take_min]
abbrev kSlF2 (o : Value) (Φ : Post) : Post := fun i g2 n2 => ∃ l us t, ∃ j : Nat, o = .ref l ∧ LAt g2 n2 l us ∧ i = .int j t ∧ us.length ≤ 1000000 ∧ ∀ r g3, Le g2 g3 → Lst g3 r (us.drop j) → Φ (.ref r) g3 n2
abbrev kSlF (c : Cx) (m : Loc) (e : Expr) (Φ : Post) (Ψ : XPost) : Post := fun o g n => EX c m g n e (kSlF2 o Φ) Ψ
theorem EX.sliceFrom {value e : Expr} {p pos : Pos} (h : EX c m g n value (kSlF c m e Φ Ψ) Ψ)
    (ht : ∀ o r, letTemporaryGo value o r = pure () := by intro _ _; rfl) : EX c m g n (.Subscript value (.Slice (some e) none none p) pos) Φ Ψ := fun s Q E S hQ hE => by
  refine wpAny_Subscript_list_slice ?_ ht
  refine h s _ E S (fun o' g1 n1 h1 tk z le S1 => ?_) hE
  obtain ⟨o, ho, k⟩ := z
  rw [evalPart_some]
  refine k { s with heap := h1, toks := tk } _ E S1 (fun i' g2 n2 h2 tk2 z le2 S2 => ?_) fun x g' n' h' tk' z le' S' X => hE x g' n' h' tk' z (le.trans le') S' X
  obtain ⟨i, hi, l, us, t, j, rfl, hl, rfl, hlen, k⟩ := z
  obtain rfl := ho.ref
  obtain ⟨t', rfl⟩ := hi.int
  rw [evalPart_none]
  obtain ⟨its, hL, hA, e0⟩ := hl.isL S2
  refine wpAny_pure ⟨l, its, _, _, rfl, hL, by rw [sizeLine_eq]; omega, .int _ _, .none, ?_⟩
  have S3 := S2.push { cls := .type "slice", data := .fields #[Value.int j t', .none, .none] }
  obtain ⟨S4, le4⟩ := S3.newObj { cls := .type "list", data := .seq (slicePick its (some (j : Int)) none none) }
  rw [Heap.size_push] at S4 le4
  refine hQ _ _ n2 _ _ ⟨_, Is.rfl' _, k (h2.objs.size + 1) _ le4 ⟨_, gset_self, _, _, rfl, ?_⟩⟩ ((le.trans le2).trans le4) S4
  rw [pick_from]; exact hA.drop j
abbrev kSlT2 (o : Value) (Φ : Post) : Post := fun i g2 n2 => ∃ l us t, ∃ j : Nat, o = .ref l ∧ LAt g2 n2 l us ∧ i = .int j t ∧ us.length ≤ 1000000 ∧ ∀ r g3, Le g2 g3 → Lst g3 r (us.take j) → Φ (.ref r) g3 n2
abbrev kSlT (c : Cx) (m : Loc) (e : Expr) (Φ : Post) (Ψ : XPost) : Post := fun o g n => EX c m g n e (kSlT2 o Φ) Ψ
theorem EX.sliceTo {value e : Expr} {p pos : Pos} (h : EX c m g n value (kSlT c m e Φ Ψ) Ψ)
    (ht : ∀ o r, letTemporaryGo value o r = pure () := by intro _ _; rfl) : EX c m g n (.Subscript value (.Slice none (some e) none p) pos) Φ Ψ := fun s Q E S hQ hE => by
  refine wpAny_Subscript_list_slice ?_ ht
  refine h s _ E S (fun o' g1 n1 h1 tk z le S1 => ?_) hE
  obtain ⟨o, ho, k⟩ := z
  rw [evalPart_none]
  refine wpAny_pure ?_
  rw [evalPart_some]
  refine k { s with heap := h1, toks := tk } _ E S1 (fun i' g2 n2 h2 tk2 z le2 S2 => ?_) fun x g' n' h' tk' z le' S' X => hE x g' n' h' tk' z (le.trans le') S' X
  obtain ⟨i, hi, l, us, t, j, rfl, hl, rfl, hlen, k⟩ := z
  obtain rfl := ho.ref
  obtain ⟨t', rfl⟩ := hi.int
  obtain ⟨its, hL, hA, e0⟩ := hl.isL S2
  refine ⟨l, its, _, _, rfl, hL, by rw [sizeLine_eq]; omega, .none, .int _ _, ?_⟩
  have S3 := S2.push { cls := .type "slice", data := .fields #[.none, Value.int j t', .none] }
  obtain ⟨S4, le4⟩ := S3.newObj { cls := .type "list", data := .seq (slicePick its none (some (j : Int)) none) }
  rw [Heap.size_push] at S4 le4
  refine hQ _ _ n2 _ _ ⟨_, Is.rfl' _, k (h2.objs.size + 1) _ le4 ⟨_, gset_self, _, _, rfl, ?_⟩⟩ ((le.trans le2).trans le4) S4
  rw [pick_upto]; exact hA.take j
theorem BO.addL {l b : Addr} {us vs : List Value} (hl : LAt g n l us) (hb : LAt g n b vs) (hsz : us.length + vs.length ≤ 1000000) (h : ∀ r g2, Le g g2 → Lst g2 r (us ++ vs) → Φ (.ref r) g2 n) : BO c m g n .Add (.ref l) (.ref b) Φ Ψ := fun u' v' hu hv s Q E S hQ hE => by
  obtain rfl := hu.ref; obtain rfl := hv.ref
  obtain ⟨its, k, ho, hA⟩ := hl.get S
  obtain ⟨its2, k2, ho2, hA2⟩ := hb.get S
  have e1 : us.length = its.size := by rw [hA.length]; simp
  have e2 : vs.length = its2.size := by rw [hA2.length]; simp
  obtain ⟨S4, le4⟩ := S.newObj { cls := .type "list", data := .seq (its ++ its2) }
  refine P.add_list ho ho2 (hQ _ _ n _ s.toks ⟨_, Is.rfl' _, h _ _ le4 ⟨_, gset_self, _, _, rfl, ?_⟩⟩ le4 S4) (by rw [sizeLine_eq]; omega)
  rw [Array.toList_append]; exact hA.append hA2
end Mine

local macro_rules | `(tactic| walk_at "M.e2") => `(tactic| first
  | ((with_reducible refine (?_ : Mine.EX _ _ _ _ (Expr.Subscript _ (Expr.Slice (some _) none none _) _) _ _)); refine Mine.EX.sliceFrom ?_)
  | ((with_reducible refine (?_ : Mine.EX _ _ _ _ (Expr.Subscript _ (Expr.Slice none (some _) none _) _) _ _)); refine Mine.EX.sliceTo ?_))
local macro_rules | `(tactic| walk_at "M.call") => `(tactic| ((with_reducible refine (?_ : Mine.EX _ _ _ _ (Expr.Call (Expr.Name "zip" _) (_ :: _) [] _) _ _)); refine' Mine.EX.callT ?hx ?hg ?hb ?hn ?hd ?_; (case hx => walk_at "M.lk"); (case hg => walk_at "M.is"); (case hb => boot_fast); (case hn => decide +kernel); (case hd => decide +kernel)))
namespace Mine
variable {c : Cx} {m : Loc} {g : View} {n : Led} {Φ : Post} {Ψ : XPost} {F : FPost}
theorem behind_eq {α : Type} {N : Nat} {f : Nat → α} (h : 0 < N) : ((List.range N).map f).drop 1 ++ [f N] = (List.range N).map (fun i => f (i + 1)) := by
  obtain ⟨M, rfl⟩ : ∃ M, N = M + 1 := ⟨N - 1, by walk_at "M.om"⟩
  rw [List.range_succ_eq_map, List.map_cons, List.drop_succ_cons, List.drop_zero, List.map_map]
  rw [show (0 :: (List.range M).map Nat.succ) = List.range (M + 1) from (List.range_succ_eq_map).symm, List.range_succ, List.map_append, List.map_singleton]
  rfl
section
variable {w : World} {h₀ : Heap} {rt pl tl : Addr} {P : Nat → Addr} {T : Nat → Value} {τ : Nat → Tag} {a q : Nat}
theorem stays_fn (hR : RingV g rt pl tl P T τ a q) : FT w h₀ (.ref 655) [.ref rt] g 2 (fun v _ => v = .bool true) := by
  refine FT.of ?_
  refine' FN.of (ps := ["ring"]) (rest := ["pairs", "things", "ahead", "behind", "own", "thing", "rest"]) (ds := []) ?ho ?hcd ?hb ?hl ?hn ?hnd ?hc ?hco ?hg ?hk ?h
  (walk_at "M.ent"; intro c hw hh hsc hk' hn0 hcomp hcl hcd hnm G hb; subst hw hh; walk_at "M.ds")
  have ht := hR.tup
  have hq0 := hR.ring.m0
  have ha4 := hR.ha
  have hq5 := hR.hq
  walk_at "M.go"
  refine ⟨pl, _, 0, 1, rfl, .inl hR.pls, rfl, by simp; omega, fun r1 g1 le1 hr1 => ?_⟩
  walk_at "M.go"
  refine SB.lst (k := (a : Int)) (.inl (hR.pls.le le1)) (by walk_at "M.om") (by walk_at "M.om") (u := .ref (P a)) (by rw [Int.toNat_natCast]; exact get_map (by walk_at "M.om")) ?_
  walk_at "M.go"
  intro r2 g2 le2 hr2
  walk_at "M.go"
  refine BO.addL (.inl (hr1.le le2)) (.inl hr2) (by simp; omega) fun r3 g3 le3 hr3 => ?_
  have e : P a = P (a + q) := (hR.ring.per _ _).mpr (.inr ⟨by walk_at "M.om", by walk_at "M.om", by simp⟩)
  rw [e, behind_eq (f := fun i => Value.ref (P i)) (by walk_at "M.om")] at hr3
  have hR3 := hR.le (le1.trans (le2.trans le3))
  walk_at "M.go"
  refine CA.zip3 (.inl hR3.pls) (.inl hR3.tls) (.inl hr3) fun z TI TO i1 i2 i3 g4 le4 hTI h0 => ?_
  have hR4 := hR3.le le4
  refine Iter.zip3 hR4.pls hR4.tls (hr3.le le4) hTI h0 ?_
  refine ⟨fun i m1 g1 n1 => n1 = [] ∧ Le g4 g1 ∧ ∃ o t rs, m1 = [(("ring" : Str), some (.ref rt)), (("pairs" : Str), some (.ref pl)), (("things" : Str), some (.ref tl)), (("ahead" : Str), some (.int a 0)), (("behind" : Str), some (.ref r3)), (("own" : Str), o), (("thing" : Str), t), (("rest" : Str), rs)], ⟨rfl, Le.rfl' _, _, _, _, rfl⟩, ?_, ?_, ?_⟩
  · rintro i m1 g1 n1 ⟨rfl, le, _⟩
    exact ⟨hR4.pls.le le, hR4.tls.le le, (hr3.le le4).le le, le _ _ hTI⟩
  · rintro i u m1 g5 g6 n1 le5 hi ⟨rfl, le45, o, t, rs, rfl⟩ le6 ⟨tp, rfl, htp⟩
    refine AG.tup htp rfl (by walk_at "M.putAll") ?_
    have hR6 := hR4.le (le45.trans le6)
    have hc6 := hR6.ring.cel i
    have hc7 := hR6.ring.cel (i + 1)
    walk_at "M.go"
    rw [decide_eq_true rfl]
    walk_at "M.go"
    have hth := hR6.thg i
    cases e : τ i with
    | num z1 =>
      rw [e] at hth
      rw [show T i = _ from hth]
      rw [show T i = _ from hth] at hc6
      walk_at "M.go"
      rw [show ((z1 : Int) != (z1 : Int)) = false from by simp]
      walk_at "M.go"
      exact ⟨[], rfl, rfl, le45.trans le6, _, _, _, rfl⟩
    | pair x y =>
      rw [e] at hth
      obtain ⟨d, hd1, hd2⟩ := hth
      rw [hd1]
      rw [hd1] at hc6
      walk_at "M.go"
      rw [decide_eq_true rfl]
      walk_at "M.go"
      exact ⟨[], rfl, rfl, le45.trans le6, _, _, _, rfl⟩
  · rintro m1 g5 g6 n1 le5 ⟨rfl, le45, o, t, rs, rfl⟩ le6
    walk_at "M.go"
    rfl
end
end Mine

namespace Mine
variable {c : Cx} {m : Loc} {g : View} {n : Led} {Φ : Post} {Ψ : XPost} {F : FPost}
theorem St.units {h : Heap} (S : St c m g n h) : c.A.units < cLine := by
  have := S.room.2
  show c.A.units < 9900
  omega
theorem AllIs.nil_inv {vs : List Value} (h : AllIs [] vs) : vs = [] := by cases h; rfl
theorem LAt.arr {h : Heap} {l us} (x : LAt g n l us) (S : St c m g n h) : ∃ its, h.IsList l its ∧ AllIs us its.toList ∧ us.length = its.size := x.isL S
theorem CO.neNil {l b : Addr} (hl : LAt g n l []) (hb : LAt g n b []) (h : Φ (.bool false) g n) : CO c m g n .NotEq (.ref l) (.ref b) Φ Ψ := fun u' v' hu hv => DO.val h fun s Q E S hQ => by
  obtain rfl := hu.ref; obtain rfl := hv.ref
  obtain ⟨its, hL, hA, e0⟩ := hl.isL S
  obtain ⟨its2, hL2, hA2, e2⟩ := hb.isL S
  have z1 : its.size = 0 := e0.symm
  have z2 : its2.size = 0 := e2.symm
  refine PySem.SeqAt.RcNeAt.lists (e := fun _ => true) hL hL2 (by rw [z1, z2]) S.units (fun j h1 => absurd h1 (by walk_at "M.om")) _ _ E Q ?_
  rw [z1]
  exact hQ _ s.heap s.toks rfl S
theorem CO.eqNil {l b : Addr} {us : List Value} (hl : LAt g n l us) (hb : LAt g n b []) (h : Φ (.bool us.isEmpty) g n) : CO c m g n .Eq (.ref l) (.ref b) Φ Ψ := fun u' v' hu hv => DO.val h fun s Q E S hQ => by
  obtain rfl := hu.ref; obtain rfl := hv.ref
  obtain ⟨its, hL, hA, e0⟩ := hl.isL S
  obtain ⟨its2, hL2, hA2, e2⟩ := hb.isL S
  have z2 : its2.size = 0 := e2.symm
  cases us with
  | nil =>
    have z1 : its.size = 0 := e0.symm
    refine PySem.SeqAt.eq_listAt (e := fun _ => true) hL hL2 (by rw [z1, z2]) S.units (fun j h1 => absurd h1 (by walk_at "M.om")) ?_
    rw [z1]
    exact hQ _ s.heap s.toks rfl S
  | cons u us =>
    have z1 : its.size = us.length + 1 := e0.symm
    exact PySem.SeqAt.eq_list_lengthsAt hL hL2 (by rw [z1, z2]; simp) S.units (hQ _ s.heap s.toks rfl S)
theorem CO.eqStr2 {l b : Addr} {x y : Str} {t1 t2 t3 t4 : Tok} (hl : LAt g n l [.str x t1, .str y t2]) (hb : LAt g n b [.str x t3, .str y t4]) (h : Φ (.bool true) g n) : CO c m g n .Eq (.ref l) (.ref b) Φ Ψ := fun u' v' hu hv => DO.val h fun s Q E S hQ => by
  obtain rfl := hu.ref; obtain rfl := hv.ref
  obtain ⟨its, hL, hA, e0⟩ := hl.isL S
  obtain ⟨its2, hL2, hA2, e2⟩ := hb.isL S
  have z1 : its.size = 2 := e0.symm
  have z2 : its2.size = 2 := e2.symm
  refine PySem.SeqAt.eq_listAt (e := fun _ => true) hL hL2 (by rw [z1, z2]) S.units (fun j h1 h2 => ?_) ?_
  · have go : ∀ (j : Nat) (z : Str) (t t' : Tok), [Value.str x t1, .str y t2][j]? = some (.str z t) → [Value.str x t3, .str y t4][j]? = some (.str z t') → ∀ (h1 : j < its.size) (h2 : j < its2.size), PySem.SeqAt.EqAt c.A.in1 s its[j] its2[j] true := by
      intro j z t t' q1 q2 h1 h2
      obtain ⟨v1, w1, i1⟩ := hA.get q1
      obtain ⟨v2, w2, i2⟩ := hA2.get q2
      obtain ⟨s1, rfl⟩ := i1.str
      obtain ⟨s2, rfl⟩ := i2.str
      rw [Array.getElem?_toList, Array.getElem?_eq_getElem h1] at w1
      rw [Array.getElem?_toList, Array.getElem?_eq_getElem h2] at w2
      rw [Option.some.inj w1, Option.some.inj w2]
      have := (eqGives_str z z s1 s2).at c.A.in1 s
      rwa [beq_self_eq_true] at this
    have : j = 0 ∨ j = 1 := by omega
    rcases this with rfl | rfl
    · exact go 0 x t1 t3 rfl rfl h1 h2
    · exact go 1 y t2 t4 rfl rfl h1 h2
  · rw [z1]
    exact hQ _ s.heap s.toks rfl S
theorem CO.eqStr {x y : Str} {t u : Tok} (h : Φ (.bool (x == y)) g n) : CO c m g n .Eq (.str x t) (.str y u) Φ Ψ := fun u' v' hu hv => DO.val h fun s Q E S hQ => by
  obtain ⟨_, rfl⟩ := hu; obtain ⟨_, rfl⟩ := hv; exact eq_str (hQ _ s.heap s.toks rfl S)
end Mine

local macro_rules | `(tactic| walk_at "M.x") => `(tactic| ((with_reducible refine (?_ : Mine.SX _ _ _ _ (Stmt.Assign [Expr.Name "here" _] _ _ :: _) _ _)); refine Mine.SX.assignC (by walk_at "M.lk") (by assumption) ?_))
namespace Mine
variable {c : Cx} {m : Loc} {g : View} {n : Led} {Φ : Post} {Ψ : XPost} {F : FPost}
section
variable {w : World} {h₀ : Heap} {dk dl rt pl tl : Addr} {us : List Value} {k : Nat} {P : Nat → Addr} {T : Nat → Value} {τ : Nat → Tag} {a q : Nat}
theorem by_take_fn (hD : Deck g dl us) (hR : RingV g rt pl tl P T τ a q) (hk : k ≤ 10000) :
    FN w h₀ (.ref 681) [.ref dk, .ref rt] g [DkL dk dl k] 7 (fun v g' n' => v = .bool true ∧ ∃ n0, n' = n0 ++ [DkL dk dl (k + 1)]) (fun _ _ => False) := by
  refine' FN.ofC (ps := ["deck", "ring"]) (rest := ["pairs", "things", "ahead", "many", "place"]) (lps := [(("deck" : Str), .ref dk), (("ring" : Str), .ref rt)]) ["here"] ?ho ?hcd ?hb ?hl ?hlps ?hn ?hps ?hrest ?hnd ?hcn ?hcn' ?hco ?hg ?hk ?h
  walk_at "M.entc"
  intro c g1 ca hw hh0 hsc hk' hn0 hcomp hcd hnm G hle hcells hcn
  subst hw hh0
  walk_at "M.ds"
  have hca := hcn "here" (.head _)
  have hD1 := hD.le hle
  have hR1 := hR.le hle
  have ht := hR1.tup
  have hq0 := hR.ring.m0
  have ha4 := hR.ha
  have hq5 := hR.hq
  walk_at "M.go"
  refine CA.draw 20 rfl hD1 (by walk_at "M.swap") (by walk_at "M.om") (by walk_at "M.om") (by walk_at "M.om") (by walk_at "M.om") fun z g2 hz le2 => ?_
  have hR2 := hR1.le le2
  walk_at "M.go"
  refine SB.lst (k := 0) (.inl hR2.pls) (by walk_at "M.om") (by walk_at "M.om") (u := .ref (P 0)) (get_map (by walk_at "M.om")) ?_
  walk_at "M.go"
  intro l1 g3 le3 hl1
  have hR3 := hR2.le le3
  walk_at "M.go"
  refine CA.ft (take_ring hR3.ring hl1 (by walk_at "M.om") (fun i => (hR3.thg i).handed)) (by walk_at "M.om") fun v g4 le4 hv => ?_
  obtain ⟨Q, rfl, hQ⟩ := hv
  have hR4 := hR3.le le4
  refine ⟨_, _, .head, CelN.cell, ?_⟩
  walk_at "M.go"
  rename_i r g5 le5 hr
  have hR5 := hR4.le le5
  have hQ5 := hQ.chn.le le5
  refine Iter.rng (k := 1) (len := z) hr (small_up (by walk_at "M.om")) range_up fun it => ?_
  refine ⟨fun i m1 g1 n1 => i ≤ z ∧ Le g5 g1 ∧ n1 = [(ca "here", CelV (.ref (Q i))), DkL dk dl (k + 1)] ∧ ∃ pc, m1 = [(("deck" : Str), some (.ref dk)), (("ring" : Str), some (.ref rt)), (("pairs" : Str), some (.ref pl)), (("things" : Str), some (.ref tl)), (("ahead" : Str), some (.int a 0)), (("many" : Str), some (.int z 0)), (("place" : Str), pc)], ⟨Nat.zero_le _, Le.rfl' _, rfl, _, rfl⟩, fun _ _ _ _ _ => trivial, ?_, ?_⟩
  · rintro i u m1 g6 g7 n1 le6 hi ⟨_, le56, rfl, pc, rfl⟩ le7 rfl
    refine AG.name (by walk_at "M.put") ?_
    have hR7 := hR5.le (le56.trans le7)
    have hc7 := (hQ5.cel i hi).le (le56.trans le7)
    walk_at "M.go"
    refine EX.comp ["here"] [("own", none)] ?_ (one_ex ⟨_, hca⟩) hsc hcomp (by kernel_rfl) (by kernel_rfl) (by kernel_rfl) rfl (by kernel_rfl) rfl (by decide +kernel) (by kernel_rfl)
    walk_at "M.go"
    refine Iter.lst (.inl hR7.pls) fun it2 => ?_
    refine ⟨fun j ys g n => ys = [] ∧ Le g7 g ∧ n = [(it, ItR (0 + ((i + 1 : Nat) : Int) * 1) (z - ((i + 1 : Nat) : Int)) 1), (ca "here", CelV (.ref (Q i))), DkL dk dl (k + 1)], ⟨rfl, Le.rfl' _, rfl⟩, ?_, ?_, ?_⟩
    · rintro j ys g n ⟨rfl, le, rfl⟩
      exact ⟨.inl (hR7.pls.le le), by simp⟩
    · rintro cc D2 hw2 hh2 hsc2 hk2 h02 hcomp2 hcl2 j ys u g8 g9 n1 le8 hj ⟨rfl, le78, rfl⟩ le9 hu
      have hj : j < a + q := by simpa using hj
      rw [get_map hj] at hu
      cases hu
      refine AG.name (by walk_at "M.put") ?_
      have hR9 := hR7.le (le78.trans le9)
      have hc9 := hc7.le (le78.trans le9)
      have hcc := (hcl2 "here" (.head _)).trans hca
      refine TS.one ?_
      walk_at "M.go"
      have hne : P j ≠ Q i := fun e => by
        obtain ⟨d, o, e1, _⟩ := hR3.ring.cel j
        rw [e, hQ.new i hi] at e1
        cases e1
      refine CO.celCel (hR9.ring.cel j) hc9 (decide_eq_false hne) ?_
      walk_at "M.go"
      exact ⟨_, rfl, rfl, le78.trans le9, rfl⟩
    · rintro D2 ys g8 g9 n1 le8 ⟨rfl, le78, rfl⟩ le9 hD0
      have hR9 := hR7.le (le78.trans le9)
      have hc9 := hc7.le (le78.trans le9)
      walk_at "M.go"
      intro t2 g10 le10 ht2
      have hR10 := hR9.le le10
      have hc10 := hc9.le le10
      refine CO.neNil (.inr (.head _)) (.inl ht2) ?_
      walk_at "M.s"
      walk_at "M.s"
      walk_at "M.s"
      refine brF ?_
      refine SX.drop ?_
      walk_at "M.go"
      rw [show (0 : Int) + (i : Int) * 1 = ((i : Nat) : Int) from by omega]
      refine CA.ft (spot_fn hR10) (by walk_at "M.om") fun v g11 le11 hv => ?_
      obtain ⟨u2, rfl⟩ := hv
      have hR11 := hR10.le le11
      refine SB.lst (k := (spotN a q i : Nat)) (.inl hR11.tls) (by walk_at "M.om") (by have := spotN_lt (a := a) (k := i) hq0; omega) (u := T (spotN a q i)) (by rw [Int.toNat_natCast]; exact get_map (spotN_lt hq0)) ?_
      rw [hR11.Tspot]
      walk_at "M.go"
      refine CA.fte (is_the_fn (hR11.thg i)) (by walk_at "M.om") fun g12 le12 => ?_
      have hc12 := (hc10.le le11).le le12
      walk_at "M.go"
      refine ⟨_, _, .tail .head, CelV.cell, ?_⟩
      walk_at "M.go"
      exact ⟨_, rfl, by walk_at "M.om", le56.trans (le7.trans (le78.trans (le9.trans (le10.trans (le11.trans le12))))), rfl, _, rfl⟩
  · rintro m1 g6 g7 n1 le6 ⟨_, le56, rfl, pc, rfl⟩ le7
    walk_at "M.go"
    rw [hQ.fin]
    refine CO.nilNil ?_
    walk_at "M.go"
    exact ⟨rfl, [_], rfl⟩
end
end Mine

namespace Mine
variable {c : Cx} {m : Loc} {g : View} {n : Led} {Φ : Post} {Ψ : XPost} {F : FPost}
abbrev kCh3 (c : Cx) (m : Loc) (op2 : CmpOp) (v : Value) (r2 : Expr) (P : BPost) (Ψ : XPost) : BPost := fun b g n => (b = true → EX c m g n r2 (kCO c m op2 v (kTR c m P Ψ) Ψ) Ψ) ∧ (b = false → P false g n)
abbrev kCh2 (c : Cx) (m : Loc) (op1 op2 : CmpOp) (u : Value) (r2 : Expr) (P : BPost) (Ψ : XPost) : Post := fun v g n => CO c m g n op1 u v (kTR c m (kCh3 c m op2 v r2 P Ψ) Ψ) Ψ
abbrev kCh (c : Cx) (m : Loc) (op1 op2 : CmpOp) (r1 r2 : Expr) (P : BPost) (Ψ : XPost) : Post := fun u g n => EX c m g n r1 (kCh2 c m op1 op2 u r2 P Ψ) Ψ
theorem TX.chain2 {l r1 r2 : Expr} {op1 op2 : CmpOp} {pos : Pos} {P : BPost}
    (h : EX c m g n l (kCh c m op1 op2 r1 r2 P Ψ) Ψ)
    (hm : lastMarks [op1, op2] [r1, r2] = false := by with_unfolding_all rfl) : TX c m g n (.Compare l [op1, op2] [r1, r2] pos) P Ψ := fun s Q E S hQ hE => by
  refine isTrue_chain (h s _ E S (fun a g1 n1 h1 tk1 z le1 S1 => ?_) hE) hm
  obtain ⟨u, hu, k⟩ := z
  refine test_link (k { s with heap := h1, toks := tk1 } _ E S1 (fun b g2 n2 h2 tk2 z le2 S2 => ?_) fun x g' n' h' tk' z le' => hE x g' n' h' tk' z (le1.trans le'))
  obtain ⟨v, hv, k⟩ := z
  have le12 := le1.trans le2
  refine k a b hu hv { s with heap := h2, toks := tk2 } _ E S2 (fun x' g3 n3 h3 tk3 z le3 S3 => ?_) fun x g' n' h' tk' z le' => hE x g' n' h' tk' z (le12.trans le')
  obtain ⟨x, hx, k⟩ := z
  have le13 := le12.trans le3
  refine k x' hx { s with heap := h3, toks := tk3 } _ E S3 (fun t g4 n4 h4 tk4 z le4 S4 => ?_) fun x g' n' h' tk' z le' => hE x g' n' h' tk' z (le13.trans le')
  have le14 := le13.trans le4
  cases t with
  | false => exact hQ false g4 n4 h4 tk4 (z.2 rfl) le14 S4
  | true =>
    refine test_last (z.1 rfl { s with heap := h4, toks := tk4 } _ E S4 (fun d g5 n5 h5 tk5 z le5 S5 => ?_) fun x g' n' h' tk' z le' => hE x g' n' h' tk' z (le14.trans le'))
    obtain ⟨w, hw, k⟩ := z
    have le15 := le14.trans le5
    refine k b d hv hw { s with heap := h5, toks := tk5 } _ E S5 (fun y' g6 n6 h6 tk6 z le6 S6 => ?_) fun x g' n' h' tk' z le' => hE x g' n' h' tk' z (le15.trans le')
    obtain ⟨y, hy, k⟩ := z
    have le16 := le15.trans le6
    exact k y' hy { s with heap := h6, toks := tk6 } Q E S6 (fun b g' n' h' tk' z le' => hQ b g' n' h' tk' z (le16.trans le')) fun x g' n' h' tk' z le' => hE x g' n' h' tk' z (le16.trans le')
theorem DO.frzPost {α : Type} {t : Sem α} {Q' : α → View → Led → Prop} (h : DO c m g n t (fun a g1 n1 => ∃ d P n2, n1 = (d, P) :: n2 ∧ c.h0.get? d = none ∧ ∀ g2 o, P o → Le g1 g2 → g2 d = some o → Q' a g2 n2) Ψ) : DO c m g n t Q' Ψ := fun s Q E S hQ hE =>
  h s Q E S (fun a g1 n1 h1 tk z le S1 => by
    obtain ⟨d, P, n2, rfl, h0, k⟩ := z
    obtain ⟨o, hP, le2, S2⟩ := S1.freeze h0
    exact hQ a _ n2 h1 tk (k _ o hP le2 gset_self) (le.trans le2) S2) hE
theorem CA.frzPost {f : Value} {vs : List Value} (h : CA c m g n f vs (fun v g1 n1 => ∃ d P n2, n1 = (d, P) :: n2 ∧ c.h0.get? d = none ∧ ∀ g2 o, P o → Le g1 g2 → g2 d = some o → Φ v g2 n2) Ψ) : CA c m g n f vs Φ Ψ := fun vs' hv =>
  DO.frzPost ((h vs' hv).mono (fun a g' n' _ z => by
    obtain ⟨v, hv, d, P, n2, e, h0, k⟩ := z
    exact ⟨d, P, n2, e, h0, fun g2 o hP le hd => ⟨v, hv, k g2 o hP le hd⟩⟩) fun _ _ z => z)
theorem fnd_append (w : World) : ∃ o fd, (KK w).lookup 589 = some o ∧ o.data = .func fd := by
  refine' ex_1 ?h ?hd
  (case h => walk_at "M.is"); (case hd => rfl)
theorem fnd_nconc (w : World) : ∃ o fd, (KK w).lookup 420 = some o ∧ o.data = .func fd := by
  refine' ex_1 ?h ?hd
  (case h => walk_at "M.is"); (case hd => rfl)
theorem Opn.weak {g0 g : View} {P : Nat → Addr} {T : Nat → Value} {k : Nat} {d : Addr} (h : Opn g0 g P T k d) : Opn (fun _ => none) g P T k d := ⟨h.chn, h.lst, fun _ _ => rfl, h.inj⟩
theorem SX.withBase {st : List Stmt} (h : (∀ a o, c.h₀.get? a = some o → g a = some o) → SX c m g n st F Ψ) : SX c m g n st F Ψ := fun s Q E S => h S.base s Q E S
theorem Opn.leR {g0 g g' : View} {P : Nat → Addr} {T : Nat → Value} {k : Nat} {d : Addr} (h : Opn g0 g P T k d) (l : Le g g') : Opn g0 g' P T k d := ⟨h.chn.le l, l _ _ h.lst, h.new, h.inj⟩
theorem ntK {f : Addr} {o : Obj} {K : Frag} (h : K.lookup f = some o) (k : o.cls ≠ .type "tuple") : ∃ o, K.lookup f = some o ∧ o.cls ≠ .type "tuple" := ⟨o, h, k⟩
theorem nt_append (w : World) : ∃ o, (KK w).lookup 589 = some o ∧ o.cls ≠ .type "tuple" := by
  refine' ntK ?h ?hd
  (case h => walk_at "M.is"); (case hd => intro q; injection q with q; exact absurd q (by decide))
theorem nt_nconc (w : World) : ∃ o, (KK w).lookup 420 = some o ∧ o.cls ≠ .type "tuple" := by
  refine' ntK ?h ?hd
  (case h => walk_at "M.is"); (case hd => intro q; injection q with q; exact absurd q (by decide))
theorem CO.isS {a b : Addr} {r : Bool} (ha : NT g n a) (hb : Th g n b) (hr : decide (a = b) = r) (h : Φ (.bool r) g n) : CO c m g n .Is (.ref a) (.ref b) Φ Ψ := CO.is ha hb (by rw [hr]; exact h)
theorem deed_rest {g0 : View} {f l y d : Addr} {x : Value} {T : Nat → Value} {Q0 : Nat → Addr} {N : Nat} (hf : f = 589 ∨ f = 420) (hO : Opn g0 g Q0 T N d) (hd0 : c.h0.get? d = none) (hN : 0 < N) (hN1 : N ≤ 100) (hh : ∀ i, i < N → handedIn (T i) = true) (hL : Lst g l [.ref (Q0 0), .ref y]) (hk : 6 ≤ c.k)
    (h : ∀ H g', Le g g' → Chn g' H T N → H N = y → (f = 420 → H 0 = Q0 0) → (f = 589 → H 0 ≠ Q0 0) → (∃ o, g' (Q0 0) = some o ∧ o.cls ≠ .type "tuple") → Φ (.ref (H 0)) g' n) : CA c m g ((d, DicM (celF (T (N - 1)) (.ref NIL))) :: n) (.ref f) [x, .ref l] Φ Ψ := by
  have hQ0 : ∃ o, g (Q0 0) = some o ∧ o.cls ≠ .type "tuple" := by
    by_cases e : N = 1
    · subst e; exact ⟨_, hO.lst, by intro q; cases q⟩
    · obtain ⟨d', o, e1, _⟩ := hO.chn.cel 0 (by walk_at "M.om")
      exact ⟨_, e1, by intro q; cases q⟩
  rcases hf with rfl | rfl
  · intro vs' hv
    refine DO.freeze hd0 fun o hP le => ?_
    have hC := hO.shut hN le gset_self hP
    have h0 : (if 0 = N then NIL else Q0 0) = Q0 0 := if_neg (by walk_at "M.om")
    refine CA.ft (append_fin (y := y) (w := c.w) (h₀ := c.h₀) (g := gset g d o) (l := l) (x := x) hC.prp hN (by walk_at "M.om") hh (by rw [h0]; exact hL.le le)) hk (fun v g2 le2 hv2 => ?_) vs' hv
    obtain ⟨H, rfl, hH⟩ := hv2
    refine h H g2 (le.trans le2) hH.chn hH.fin (fun e => by cases e) (fun _ e => ?_) (let ⟨o, a, b⟩ := hQ0; ⟨o, le2 _ _ (le _ _ a), b⟩)
    have := hH.new 0 hN
    obtain ⟨o', a, _⟩ := hQ0
    rw [e, le _ _ a] at this
    cases this
  · refine CA.frzPost ?_
    refine CA.fnP (pre := []) (nc := [(d, DicM (celF (T (N - 1)) (.ref NIL)))]) (post := n) (nconc_fin hO.weak hN (by walk_at "M.om") hL) hk (fun v g' n' le _ z => ?_) (fun _ _ _ z => z.elim)
    obtain ⟨rfl, rfl⟩ := z
    refine ⟨d, _, n, rfl, hd0, fun g2 o hP le2 ho => ?_⟩
    have hC := hO.shut (tl := y) hN (le.trans le2) ho hP
    have h0 : (if 0 = N then y else Q0 0) = Q0 0 := if_neg (by walk_at "M.om")
    have := h (fun i => if i = N then y else Q0 i) g2 (le.trans le2) hC.chn hC.fin (fun _ => h0) (fun e => by cases e) (let ⟨o, a, b⟩ := hQ0; ⟨o, le2 _ _ (le _ _ a), b⟩)
    rwa [h0] at this
section
variable {w : World} {h₀ : Heap} {dk dl rt pl tl : Addr} {us : List Value} {k : Nat} {P : Nat → Addr} {T : Nat → Value} {τ : Nat → Tag} {a q : Nat}
theorem by_rest_fn (hD : Deck g dl us) (hR : RingV g rt pl tl P T τ a q) (hk : k ≤ 10000) :
    FN w h₀ (.ref 698) [.ref dk, .ref rt] g [DkL dk dl k] 8 (fun v g' n' => v = .bool true ∧ ∃ k', k' ≤ k + 5 ∧ n' = [DkL dk dl k']) (fun _ _ => False) := by
  refine' FN.ofC (ps := ["deck", "ring"]) (rest := ["pairs", "things", "ahead", "numbers", "deed", "first", "here", "number", "many"]) (lps := [(("ring" : Str), .ref rt)]) [] ?ho ?hcd ?hb ?hl ?hlps ?hn ?hps ?hrest ?hnd ?hcn ?hcn' ?hco ?hg ?hk ?h
  walk_at "M.entc"
  intro c g1 ca hw hh0 hsc hk' hn0 hcomp hcd hnm G hle hcells hcn
  subst hw hh0
  walk_at "M.ds"
  have hdc := hcells "deck" _ (.head _) (by kernel_rfl)
  have hD1 := hD.le hle
  have hR1 := hR.le hle
  have ht := hR1.tup
  have hq0 := hR.ring.m0
  have ha4 := hR.ha
  have hq5 := hR.hq
  walk_at "M.go"
  refine SX.asgComp ["deck"] [("turn", none)] ?_ (one_ex hdc.ex) hsc hcomp (by kernel_rfl) (by kernel_rfl) (by kernel_rfl) rfl (by kernel_rfl) rfl (by decide +kernel) (by kernel_rfl) (swap_of hsc (fun _ _ _ _ _ _ => by kernel_rfl))
  walk_at "M.go"
  refine CA.draw 3 rfl hD1 (by walk_at "M.swap") (by walk_at "M.om") (by walk_at "M.om") (by walk_at "M.om") (by walk_at "M.om") fun z g2 hz le2 => ?_
  have hR2 := hR1.le le2
  walk_at "M.go"
  rename_i r g3 le3 hr
  have hr : Rng g3 r 0 ((z + 1 : Nat) : Int) 1 := by rw [show ((z + 1 : Nat) : Int) = 1 + (z : Int) from by push_cast; omega]; exact hr
  have hR3 := hR2.le le3
  have hD3 := (hD1.le le2).le le3
  refine Iter.rng (k := 1) (len := z + 1) hr (small_up (by walk_at "M.om")) range_up fun it => ?_
  refine ⟨fun i ys g n => i ≤ z + 1 ∧ Le g3 g ∧ ∃ f : Nat → Nat, ys = (List.range i).map (fun j => .int (f j) 0) ∧ n = [DkL dk dl (k + 1 + i)], ⟨by walk_at "M.om", Le.rfl' _, fun _ => 0, rfl, rfl⟩, ?_, ?_, ?_⟩
  · rintro i ys g n ⟨hi, _, f, rfl, rfl⟩
    exact ⟨trivial, by simp; omega⟩
  · rintro cc D2 hw2 hh2 hsc2 hk2 h02 hcomp2 hcl2 j ys u g8 g9 n1 le8 hj ⟨_, le78, f, rfl, rfl⟩ le9 rfl
    refine AG.name (by walk_at "M.put") ?_
    have hD9 := hD3.le (le78.trans le9)
    have hcc : CellV cc g9 "deck" _ := ((hdc.le (le2.trans le3)).le (le78.trans le9)).of (hcl2 "deck" (.head _))
    refine TS.nil ?_
    refine ⟨fun _ => ?_, fun h => by cases h⟩
    walk_at "M.go"
    refine CA.draw 9 rfl hD9 (by walk_at "M.swap") (by walk_at "M.om") (by walk_at "M.om") (by walk_at "M.om") (by walk_at "M.om") fun z2 g10 hz2 le10 => ?_
    rw [map_snoc]
    refine ⟨_, rfl, by walk_at "M.om", le78.trans (le9.trans le10), fun j' => if j' = j then z2 else f j', map_ext fun i hi => ?_, rfl⟩
    by_cases q : i = j
    · subst q; simp
    · simp [q]
  · rintro D2 ys g8 g9 n1 le8 ⟨_, le78, f0, rfl, rfl⟩ le9 hD0
    have hR9 := hR3.le (le78.trans le9)
    have hD9 := hD3.le (le78.trans le9)
    have hdc9 := (hdc.le (le2.trans le3)).le (le78.trans le9)
    walk_at "M.s"
    refine SX.frzL hD0 fun g10 le10 hnums => ?_
    refine SX.withBase fun hb10 => ?_
    have hR10 := hR9.le le10
    have hD10 := hD9.le le10
    have hdc10 := hdc9.le le10
    walk_at "M.go"
    intro t5 g11 le11 ht5
    walk_at "M.go"
    refine CA.draw 2 rfl (hD10.le le11) (by walk_at "M.swap") (by walk_at "M.om") (by walk_at "M.om") (by walk_at "M.om") (by walk_at "M.om") fun z3 g12 hz3 le12 => ?_
    obtain ⟨f, hf, hf2⟩ : ∃ f : Addr, (f = 589 ∨ f = 420) ∧ [Value.ref 589, Value.ref 420][z3]? = some (.ref f) := by
      have : z3 = 0 ∨ z3 = 1 := by omega
      rcases this with rfl | rfl
      · exact ⟨589, .inl rfl, rfl⟩
      · exact ⟨420, .inr rfl, rfl⟩
    refine SB.lst (k := (z3 : Int)) (.inl (ht5.le le12)) (by walk_at "M.om") (by walk_at "M.om") (u := .ref f) (by rw [Int.toNat_natCast]; exact hf2) ?_
    have le012 := hle.trans (le2.trans (le3.trans (le78.trans (le9.trans (le10.trans (le11.trans le12))))))
    have hbase : ∀ a o, c.h₀.get? a = some o → g12 a = some o := fun a o e => le12 _ _ (le11 _ _ (hb10 a o e))
    have hFV : FV g12 f := by
      rcases hf with rfl | rfl
      · exact fv_of G hbase (fnd_append _)
      · exact fv_of G hbase (fnd_nconc _)
    have hNT : ∃ o, g12 f = some o ∧ o.cls ≠ .type "tuple" := by
      rcases hf with rfl | rfl
      · obtain ⟨o, a, b⟩ := nt_append c.w; exact ⟨o, hbase _ _ (G.K _ _ a), b⟩
      · obtain ⟨o, a, b⟩ := nt_nconc c.w; exact ⟨o, hbase _ _ (G.K _ _ a), b⟩
    have hNT2 : ∃ o, g12 420 = some o ∧ o.cls ≠ .type "tuple" := by
      obtain ⟨o, a, b⟩ := nt_nconc c.w; exact ⟨o, hbase _ _ (G.K _ _ a), b⟩
    walk_at "M.go"
    refine CA.fn (list_of_open (T := fun j => .int (f0 j) 0) (k := z + 1) (tl := NIL) (ds := [.ref NIL]) (by walk_at "M.om") ((hnums.le le11).le le12) (by simp) (fun i hi => get_map hi) (fun i hi => rfl) (by walk_at "M.om") (.inl ⟨rfl, rfl, rfl⟩)) (by walk_at "M.om") (fun v g13 n13 le13 fr z1 => ?_) (fun _ _ _ z => z.elim)
    obtain ⟨Q0, d, rfl, rfl, hO⟩ := z1
    have hd0 := fr d (.head _)
    have hR13 := ((hR10.le le11).le le12).le le13
    walk_at "M.ds"
    walk_at "M.go"
    refine EX.callF' ?_
    walk_at "M.go"
    refine SB.lst (k := 0) (.inl hR13.pls) (by walk_at "M.om") (by walk_at "M.om") (u := .ref (P 0)) (get_map (by walk_at "M.om")) ?_
    walk_at "M.go"
    intro l6 g14 le14 hl6
    walk_at "M.go"
    refine deed_rest (T := fun j => .int (f0 j) 0) (N := z + 1) hf (hO.leR le14) hd0 (by walk_at "M.om") (by walk_at "M.om") (fun i hi => rfl) hl6 (by walk_at "M.om") fun H g15 le15 hH hHN hn1 hn2 hQ0 => ?_
    have hR15 := (hR13.le le14).le le15
    have c0 := hH.cel 0 (by walk_at "M.om")
    have hfst : NT g15 [DkL dk dl (k + 1 + (z + 1) + 1)] (Q0 0) := .inl hQ0
    have hf15 : NT g15 [DkL dk dl (k + 1 + (z + 1) + 1)] f := let ⟨o, a, b⟩ := hNT; .inl ⟨o, le15 _ _ (le14 _ _ (le13 _ _ a)), b⟩
    have hf16 : NT g15 [DkL dk dl (k + 1 + (z + 1) + 1)] 420 := let ⟨o, a, b⟩ := hNT2; .inl ⟨o, le15 _ _ (le14 _ _ (le13 _ _ a)), b⟩
    walk_at "M.go"
    have hbb : (decide (H 0 = Q0 0) != decide (f = 420)) = false := by
      rcases hf with rfl | rfl
      · rw [decide_eq_false (hn2 rfl)]; rfl
      · rw [decide_eq_true (hn1 rfl)]; rfl
    refine CO.neBool ?_
    rw [hbb]
    walk_at "M.go"
    refine Iter.lst (.inl ((((hnums.le le11).le le12).le le13).le (le14.trans le15))) fun it2 => ?_
    refine ⟨fun i m1 g1 n1 => i ≤ z + 1 ∧ Le g15 g1 ∧ n1 = [DkL dk dl (k + 1 + (z + 1) + 1)] ∧ ∃ nb, m1 = [(("ring" : Str), some (.ref rt)), (("pairs" : Str), some (.ref pl)), (("things" : Str), some (.ref tl)), (("ahead" : Str), some (.int a 0)), (("numbers" : Str), some (.ref D2)), (("deed" : Str), some (.ref f)), (("first" : Str), some (.ref (Q0 0))), (("here" : Str), some (.ref (H i))), (("number" : Str), nb), (("many" : Str), none)], ⟨by walk_at "M.om", Le.rfl' _, rfl, _, rfl⟩, ?_, ?_, ?_⟩
    · rintro i m1 g1 n1 ⟨_, le, _⟩
      exact .inl (((((hnums.le le11).le le12).le le13).le (le14.trans le15)).le le)
    · rintro i u m1 g16 g17 n1 le16 hi ⟨_, le1516, rfl, nb, rfl⟩ le17 hu
      have hi : i < z + 1 := by simpa using hi
      rw [get_map hi] at hu
      cases hu
      refine AG.name (by walk_at "M.put") ?_
      have ci := (hH.cel i hi).le (le1516.trans le17)
      walk_at "M.go"
      rw [show ((f0 i : Int) != (f0 i : Int)) = false from by simp]
      walk_at "M.go"
      exact ⟨_, rfl, by walk_at "M.om", le1516.trans le17, rfl, _, rfl⟩
    · rintro m1 g16 g17 n1 le16 ⟨_, le1516, rfl, nb, rfl⟩ le17
      have hR17 := hR15.le (le1516.trans le17)
      rw [show ((List.range (z + 1)).map fun j => Value.int (f0 j) 0).length = z + 1 from by simp, hHN]
      walk_at "M.go"
      refine SB.lst (k := 0) (.inl hR17.pls) (by walk_at "M.om") (by walk_at "M.om") (u := .ref (P 0)) (get_map (by walk_at "M.om")) ?_
      walk_at "M.go"
      intro l7 g18 le18 hl7
      walk_at "M.go"
      refine CA.ft (safe_length_ring (hR17.le le18).ring hl7) (by walk_at "M.om") fun v g19 le19 hv => ?_
      obtain ⟨s, rfl, hM1, hM2⟩ := hv
      have hR19 := (hR17.le le18).le le19
      walk_at "M.go"
      refine SB.lst (k := 0) (.inl hR19.pls) (by walk_at "M.om") (by walk_at "M.om") (u := .ref (P 0)) (get_map (by walk_at "M.om")) ?_
      have cP := hR19.ring.cel 0
      refine CO.isnt cP.nt cP.nt.th ?_
      rw [decide_eq_true rfl]
      walk_at "M.go"
      refine TX.chain2 ?_
      have hpl19 := hR19.pls
      have hlen : ((List.range (a + q)).map fun i => Value.ref (P i)).length = a + q := by simp
      walk_at "M.go"
      rw [hlen]
      rw [decide_eq_true (show ((a + q : Nat) : Int) ≤ (s : Int) by walk_at "M.om")]
      walk_at "M.go"
      rw [hlen]
      refine BO.mulS (by walk_at "M.om") ?_
      walk_at "M.go"
      rw [decide_eq_true (show (s : Int) ≤ 2 * ((a + q : Nat) : Int) by walk_at "M.om")]
      walk_at "M.go"
      refine SB.lst (k := 0) (.inl hpl19) (by walk_at "M.om") (by walk_at "M.om") (u := .ref (P 0)) (get_map (by walk_at "M.om")) ?_
      walk_at "M.go"
      intro l8 g20 le20 hl8
      walk_at "M.go"
      refine CA.fte (proper_ring (hR19.le le20).ring hl8) (by walk_at "M.om") fun g21 le21 => ?_
      have hR21 := (hR19.le le20).le le21
      walk_at "M.go"
      refine SB.lst (k := 0) (.inl hR21.pls) (by walk_at "M.om") (by walk_at "M.om") (u := .ref (P 0)) (get_map (by walk_at "M.om")) ?_
      walk_at "M.go"
      intro l9 g22 le22 hl9
      walk_at "M.go"
      refine CA.fte (butlast_zero (hR21.le le22).ring hl9) (by walk_at "M.om") fun g23 le23 => ?_
      have hR23 := (hR21.le le22).le le23
      walk_at "M.go"
      refine SB.lst (k := 0) (.inl hR23.pls) (by walk_at "M.om") (by walk_at "M.om") (u := .ref (P 0)) (get_map (by walk_at "M.om")) ?_
      have cQ := hR23.ring.cel 0
      refine CO.isS cQ.nt cQ.nt.th (decide_eq_true rfl) ?_
      walk_at "M.go"
      exact ⟨rfl, _, by walk_at "M.om", rfl⟩
end
end Mine

namespace Mine
variable {c : Cx} {m : Loc} {g : View} {n : Led} {Φ : Post} {Ψ : XPost} {F : FPost}
theorem lt7 {z : Nat} (h : z < 7) : z = 0 ∨ z = 1 ∨ z = 2 ∨ z = 3 ∨ z = 4 ∨ z = 5 ∨ z = 6 :=
  (by decide : ∀ z, z < 7 → (z = 0 ∨ z = 1 ∨ z = 2 ∨ z = 3 ∨ z = 4 ∨ z = 5 ∨ z = 6)) z h
theorem lt16 {z : Nat} (h : z < 16) : z = 0 ∨ z = 1 ∨ z = 2 ∨ z = 3 ∨ z = 4 ∨ z = 5 ∨ z = 6 ∨ z = 7 ∨ z = 8 ∨ z = 9 ∨ z = 10 ∨ z = 11 ∨ z = 12 ∨ z = 13 ∨ z = 14 ∨ z = 15 :=
  (by decide : ∀ z, z < 16 → (z = 0 ∨ z = 1 ∨ z = 2 ∨ z = 3 ∨ z = 4 ∨ z = 5 ∨ z = 6 ∨ z = 7 ∨ z = 8 ∨ z = 9 ∨ z = 10 ∨ z = 11 ∨ z = 12 ∨ z = 13 ∨ z = 14 ∨ z = 15)) z h
theorem one_get {v : Value} : ∀ i, i < 1 → [v][i]? = some v := by
  intro i hi
  obtain rfl : i = 0 := by omega
  rfl
structure Up (g g' : View) : Prop where
  le : Le g g'
def Rsn (w : World) (h₀ : Heap) (g : View) (t : Addr) : Prop := ∃ f l, Tup g t [.ref f, .ref l] ∧ FV g f ∧ ∀ g', Le g g' → FR w h₀ (.ref f) [.none, .ref l] g' 6
theorem Rsn.le {w : World} {h₀ : Heap} {g g' : View} {t : Addr} (h : Rsn w h₀ g t) (k : Le g g') : Rsn w h₀ g' t := let ⟨f, l, a, b, d⟩ := h; ⟨f, l, a.le k, b.le k, fun g'' le => d g'' (k.trans le)⟩
def isFnc (K : Frag) (f : Addr) : Bool := match K.lookup f with | some o => (match o.data with | .func _ => true | _ => false) | none => false
theorem fv_is {w : World} {h₀ : Heap} {f : Addr} (G : G0 w h₀) (hb : ∀ a o, h₀.get? a = some o → g a = some o) (h : isFnc (KK w) f = true) : FV g f := by
  unfold isFnc at h
  split at h
  · rename_i o e
    split at h
    · rename_i fd hd; exact ⟨o, fd, hb _ _ (G.K _ _ e), hd⟩
    · cases h
  · cases h
section
variable {w : World} {h₀ : Heap} {dk dl rt pl tl : Addr} {us : List Value} {k : Nat} {P : Nat → Addr} {T : Nat → Value} {τ : Nat → Tag} {a q : Nat}
theorem by_end_fn (hD : Deck g dl us) (hR : RingV g rt pl tl P T τ a q) (hk : k ≤ 10000) :
    FN w h₀ (.ref 693) [.ref dk, .ref rt] g [DkL dk dl k] 8 (fun v g' n' => v = .bool true ∧ ∃ n0, n' = n0 ++ [DkL dk dl (k + 3)]) (fun _ _ => False) := by
  refine' FN.of (ps := ["deck", "ring"]) (rest := ["pairs", "things", "ahead", "own", "key", "menu", "deed", "args"]) (ds := []) ?ho ?hcd ?hb ?hl ?hn ?hnd ?hc ?hco ?hg ?hk ?h
  (walk_at "M.ent"; intro c hw hh hsc hk' hn0 hcomp hcl hcd hnm G hb; subst hw hh; walk_at "M.ds")
  have ht := hR.tup
  have hq0 := hR.ring.m0
  have ha4 := hR.ha
  have hq5 := hR.hq
  have hpl := hR.pls
  have hlen : ((List.range (a + q)).map fun i => Value.ref (P i)).length = a + q := by simp
  walk_at "M.go"
  rw [hlen]
  refine CA.draw (a + q) rfl hD (by walk_at "M.swap") (by walk_at "M.om") (by walk_at "M.om") (by walk_at "M.om") (by walk_at "M.om") fun z g1 hz le1 => ?_
  refine SB.lst (k := (z : Int)) (.inl (hpl.le le1)) (by walk_at "M.om") (by walk_at "M.om") (u := .ref (P z)) (by rw [Int.toNat_natCast]; exact get_map hz) ?_
  walk_at "M.go"
  refine CA.draw 5 rfl (hD.le le1) (by walk_at "M.swap") (by walk_at "M.om") (by walk_at "M.om") (by walk_at "M.om") (by walk_at "M.om") fun key g2 hkey le2 => ?_
  have hb2 : ∀ a o, c.h₀.get? a = some o → g2 a = some o := fun a o e => le2 _ _ (le1 _ _ (hb a o e))
  have hS := ((hR.ring.le le1).le le2).shift z
  have L2 : Up g2 g2 := ⟨Le.rfl' g2⟩
  walk_at "M.go"
  intro l1 g3 le3 hl1
  have L3 : Up g2 g3 := ⟨L2.le.trans le3⟩
  walk_at "M.go"
  intro t1 g4 le4 ht1
  have L4 : Up g2 g4 := ⟨L3.le.trans le4⟩
  have R1 : Rsn c.w c.h₀ g4 t1 := ⟨_, _, ht1, (fv_is G hb2 (f := 561) (by kernel_rfl)).le L4.le, fun g' le => length_ring (hS.le (L4.le.trans le)) (hl1.le ((le4).trans le))⟩
  walk_at "M.go"
  intro l2 g5 le5 hl2
  have L5 : Up g2 g5 := ⟨L4.le.trans le5⟩
  walk_at "M.go"
  intro t2 g6 le6 ht2
  have L6 : Up g2 g6 := ⟨L5.le.trans le6⟩
  have R2 : Rsn c.w c.h₀ g6 t2 := ⟨_, _, ht2, (fv_is G hb2 (f := 610) (by kernel_rfl)).le L6.le, fun g' le => reverse_ring (hS.le (L6.le.trans le)) (hl2.le ((le6).trans le))⟩
  walk_at "M.go"
  intro l3 g7 le7 hl3
  have L7 : Up g2 g7 := ⟨L6.le.trans le7⟩
  walk_at "M.go"
  intro t3 g8 le8 ht3
  have L8 : Up g2 g8 := ⟨L7.le.trans le8⟩
  have R3 : Rsn c.w c.h₀ g8 t3 := ⟨_, _, ht3, (fv_is G hb2 (f := 617) (by kernel_rfl)).le L8.le, fun g' le => nreverse_ring (hS.le (L8.le.trans le)) (hl3.le ((le8).trans le))⟩
  walk_at "M.go"
  intro l4 g9 le9 hl4
  have L9 : Up g2 g9 := ⟨L8.le.trans le9⟩
  walk_at "M.go"
  intro t4 g10 le10 ht4
  have L10 : Up g2 g10 := ⟨L9.le.trans le10⟩
  have R4 : Rsn c.w c.h₀ g10 t4 := ⟨_, _, ht4, (fv_is G hb2 (f := 603) (by kernel_rfl)).le L10.le, fun g' le => copy_ring (hS.le (L10.le.trans le)) (hl4.le ((le10).trans le))⟩
  walk_at "M.go"
  intro m1 g11 le11 hm1
  have L11 : Up g2 g11 := ⟨L10.le.trans le11⟩
  walk_at "M.go"
  intro lk5 g12 le12 hlk5
  have L12 : Up g2 g12 := ⟨L11.le.trans le12⟩
  walk_at "M.go"
  refine CA.ft (list_of_fn (T := fun _ => .int key 0) (k := 1) (tl := NIL) (ds := [.ref NIL]) (by walk_at "M.om") hlk5 rfl one_get (fun _ _ => rfl) (by walk_at "M.om") (.inl ⟨rfl, rfl, rfl⟩)) (by walk_at "M.om") fun v5 g13 le13 hv5 => ?_
  obtain ⟨Q5, rfl, hQ5⟩ := hv5
  have L13 : Up g2 g13 := ⟨L12.le.trans le13⟩
  walk_at "M.go"
  intro l5 g14 le14 hl5
  have L14 : Up g2 g14 := ⟨L13.le.trans le14⟩
  walk_at "M.go"
  intro t5 g15 le15 ht5
  have L15 : Up g2 g15 := ⟨L14.le.trans le15⟩
  have R5 : Rsn c.w c.h₀ g15 t5 := ⟨_, _, ht5, (fv_is G hb2 (f := 596) (by kernel_rfl)).le L15.le, fun g' le => vconcat_ring (hS.le (L15.le.trans le)) (hQ5.prp.le ((le14.trans (le15)).trans le)) (hl5.le ((le15).trans le))⟩
  walk_at "M.go"
  intro lk6 g16 le16 hlk6
  have L16 : Up g2 g16 := ⟨L15.le.trans le16⟩
  walk_at "M.go"
  refine CA.ft (list_of_fn (T := fun _ => .int key 0) (k := 1) (tl := NIL) (ds := [.ref NIL]) (by walk_at "M.om") hlk6 rfl one_get (fun _ _ => rfl) (by walk_at "M.om") (.inl ⟨rfl, rfl, rfl⟩)) (by walk_at "M.om") fun v6 g17 le17 hv6 => ?_
  obtain ⟨Q6, rfl, hQ6⟩ := hv6
  have L17 : Up g2 g17 := ⟨L16.le.trans le17⟩
  walk_at "M.go"
  intro l6 g18 le18 hl6
  have L18 : Up g2 g18 := ⟨L17.le.trans le18⟩
  walk_at "M.go"
  intro t6 g19 le19 ht6
  have L19 : Up g2 g19 := ⟨L18.le.trans le19⟩
  have R6 : Rsn c.w c.h₀ g19 t6 := ⟨_, _, ht6, (fv_is G hb2 (f := 589) (by kernel_rfl)).le L19.le, fun g' le => append_ring (hS.le (L19.le.trans le)) (hl6.le ((le19).trans le))⟩
  walk_at "M.go"
  intro n2 g20 le20 hn2
  have L20 : Up g2 g20 := ⟨L19.le.trans le20⟩
  walk_at "M.go"
  refine BO.addL (.inl (hm1.le (le12.trans (le13.trans (le14.trans (le15.trans (le16.trans (le17.trans (le18.trans (le19.trans (le20))))))))))) (.inl hn2) (by simp) fun m2 g21 le21 hm2 => ?_
  have L21 : Up g2 g21 := ⟨L20.le.trans le21⟩
  walk_at "M.go"
  intro lk7 g22 le22 hlk7
  have L22 : Up g2 g22 := ⟨L21.le.trans le22⟩
  walk_at "M.go"
  refine CA.ft (list_of_fn (T := fun _ => .int key 0) (k := 1) (tl := NIL) (ds := [.ref NIL]) (by walk_at "M.om") hlk7 rfl one_get (fun _ _ => rfl) (by walk_at "M.om") (.inl ⟨rfl, rfl, rfl⟩)) (by walk_at "M.om") fun v7 g23 le23 hv7 => ?_
  obtain ⟨Q7, rfl, hQ7⟩ := hv7
  have L23 : Up g2 g23 := ⟨L22.le.trans le23⟩
  walk_at "M.go"
  intro l7 g24 le24 hl7
  have L24 : Up g2 g24 := ⟨L23.le.trans le24⟩
  walk_at "M.go"
  intro t7 g25 le25 ht7
  have L25 : Up g2 g25 := ⟨L24.le.trans le25⟩
  have R7 : Rsn c.w c.h₀ g25 t7 := ⟨_, _, ht7, (fv_is G hb2 (f := 420) (by kernel_rfl)).le L25.le, fun g' le => nconc_ring (hS.le (L25.le.trans le)) (hl7.le ((le25).trans le))⟩
  walk_at "M.go"
  intro l8 g26 le26 hl8
  have L26 : Up g2 g26 := ⟨L25.le.trans le26⟩
  walk_at "M.go"
  intro t8 g27 le27 ht8
  have L27 : Up g2 g27 := ⟨L26.le.trans le27⟩
  have R8 : Rsn c.w c.h₀ g27 t8 := ⟨_, _, ht8, (fv_is G hb2 (f := 622) (by kernel_rfl)).le L27.le, fun g' le => delete_ring (hS.le (L27.le.trans le)) (hl8.le ((le27).trans le))⟩
  walk_at "M.go"
  intro l9 g28 le28 hl9
  have L28 : Up g2 g28 := ⟨L27.le.trans le28⟩
  walk_at "M.go"
  intro t9 g29 le29 ht9
  have L29 : Up g2 g29 := ⟨L28.le.trans le29⟩
  have R9 : Rsn c.w c.h₀ g29 t9 := ⟨_, _, ht9, (fv_is G hb2 (f := 627) (by kernel_rfl)).le L29.le, fun g' le => remove_ring (hS.le (L29.le.trans le)) (hl9.le ((le29).trans le))⟩
  walk_at "M.go"
  intro n3 g30 le30 hn3
  have L30 : Up g2 g30 := ⟨L29.le.trans le30⟩
  walk_at "M.go"
  refine BO.addL (.inl (hm2.le (le22.trans (le23.trans (le24.trans (le25.trans (le26.trans (le27.trans (le28.trans (le29.trans (le30))))))))))) (.inl hn3) (by simp) fun m3 g31 le31 hm3 => ?_
  have L31 : Up g2 g31 := ⟨L30.le.trans le31⟩
  walk_at "M.go"
  intro l10 g32 le32 hl10
  have L32 : Up g2 g32 := ⟨L31.le.trans le32⟩
  walk_at "M.go"
  intro t10 g33 le33 ht10
  have L33 : Up g2 g33 := ⟨L32.le.trans le33⟩
  have R10 : Rsn c.w c.h₀ g33 t10 := ⟨_, _, ht10, (fv_is G hb2 (f := 469) (by kernel_rfl)).le L33.le, fun g' le => delq_ring (hS.le (L33.le.trans le)) (hl10.le ((le33).trans le))⟩
  walk_at "M.go"
  intro l11 g34 le34 hl11
  have L34 : Up g2 g34 := ⟨L33.le.trans le34⟩
  walk_at "M.go"
  intro t11 g35 le35 ht11
  have L35 : Up g2 g35 := ⟨L34.le.trans le35⟩
  have R11 : Rsn c.w c.h₀ g35 t11 := ⟨_, _, ht11, (fv_is G hb2 (f := 474) (by kernel_rfl)).le L35.le, fun g' le => remq_ring (hS.le (L35.le.trans le)) (hl11.le ((le35).trans le))⟩
  walk_at "M.go"
  intro l12 g36 le36 hl12
  have L36 : Up g2 g36 := ⟨L35.le.trans le36⟩
  walk_at "M.go"
  intro t12 g37 le37 ht12
  have L37 : Up g2 g37 := ⟨L36.le.trans le37⟩
  have R12 : Rsn c.w c.h₀ g37 t12 := ⟨_, _, ht12, (fv_is G hb2 (f := 399) (by kernel_rfl)).le L37.le, fun g' le => last_ring1 (hS.le (L37.le.trans le)) (hl12.le ((le37).trans le))⟩
  walk_at "M.go"
  intro l13 g38 le38 hl13
  have L38 : Up g2 g38 := ⟨L37.le.trans le38⟩
  walk_at "M.go"
  intro t13 g39 le39 ht13
  have L39 : Up g2 g39 := ⟨L38.le.trans le39⟩
  have R13 : Rsn c.w c.h₀ g39 t13 := ⟨_, _, ht13, (fv_is G hb2 (f := 399) (by kernel_rfl)).le L39.le, fun g' le => last_ring2 (hS.le (L39.le.trans le)) (hl13.le ((le39).trans le))⟩
  walk_at "M.go"
  intro n4 g40 le40 hn4
  have L40 : Up g2 g40 := ⟨L39.le.trans le40⟩
  walk_at "M.go"
  refine BO.addL (.inl (hm3.le (le32.trans (le33.trans (le34.trans (le35.trans (le36.trans (le37.trans (le38.trans (le39.trans (le40))))))))))) (.inl hn4) (by simp) fun m4 g41 le41 hm4 => ?_
  have L41 : Up g2 g41 := ⟨L40.le.trans le41⟩
  walk_at "M.go"
  intro l14 g42 le42 hl14
  have L42 : Up g2 g42 := ⟨L41.le.trans le42⟩
  walk_at "M.go"
  intro t14 g43 le43 ht14
  have L43 : Up g2 g43 := ⟨L42.le.trans le43⟩
  have R14 : Rsn c.w c.h₀ g43 t14 := ⟨_, _, ht14, (fv_is G hb2 (f := 406) (by kernel_rfl)).le L43.le, fun g' le => butlast_ring1 (hS.le (L43.le.trans le)) (hl14.le ((le43).trans le))⟩
  walk_at "M.go"
  intro l15 g44 le44 hl15
  have L44 : Up g2 g44 := ⟨L43.le.trans le44⟩
  walk_at "M.go"
  intro t15 g45 le45 ht15
  have L45 : Up g2 g45 := ⟨L44.le.trans le45⟩
  have R15 : Rsn c.w c.h₀ g45 t15 := ⟨_, _, ht15, (fv_is G hb2 (f := 406) (by kernel_rfl)).le L45.le, fun g' le => butlast_ring2 (hS.le (L45.le.trans le)) (hl15.le ((le45).trans le)) (by walk_at "M.om")⟩
  walk_at "M.go"
  intro l16 g46 le46 hl16
  have L46 : Up g2 g46 := ⟨L45.le.trans le46⟩
  walk_at "M.go"
  intro t16 g47 le47 ht16
  have L47 : Up g2 g47 := ⟨L46.le.trans le47⟩
  have R16 : Rsn c.w c.h₀ g47 t16 := ⟨_, _, ht16, (fv_is G hb2 (f := 514) (by kernel_rfl)).le L47.le, fun g' le => copy_alist_ring (hS.le (L47.le.trans le)) (hl16.le ((le47).trans le))⟩
  walk_at "M.go"
  intro n5 g48 le48 hn5
  have L48 : Up g2 g48 := ⟨L47.le.trans le48⟩
  walk_at "M.go"
  refine BO.addL (.inl (hm4.le (le42.trans (le43.trans (le44.trans (le45.trans (le46.trans (le47.trans (le48))))))))) (.inl hn5) (by simp) fun m5 g49 le49 hm5 => ?_
  have L49 : Up g2 g49 := ⟨L48.le.trans le49⟩
  walk_at "M.go"
  refine CA.draw 16 rfl (((hD.le le1).le le2).le L49.le) (by walk_at "M.swap") (by walk_at "M.om") (by walk_at "M.om") (by walk_at "M.om") (by walk_at "M.om") fun zz g50 hzz le50 => ?_
  obtain ⟨t, ht, hRs⟩ : ∃ t, ([Value.ref t1, Value.ref t2, Value.ref t3, Value.ref t4] ++ [Value.ref t5, Value.ref t6] ++ [Value.ref t7, Value.ref t8, Value.ref t9] ++ [Value.ref t10, Value.ref t11, Value.ref t12, Value.ref t13] ++ [Value.ref t14, Value.ref t15, Value.ref t16])[zz]? = some (.ref t) ∧ Rsn c.w c.h₀ g49 t := by
    have hz16 : zz = 0 ∨ zz = 1 ∨ zz = 2 ∨ zz = 3 ∨ zz = 4 ∨ zz = 5 ∨ zz = 6 ∨ zz = 7 ∨ zz = 8 ∨ zz = 9 ∨ zz = 10 ∨ zz = 11 ∨ zz = 12 ∨ zz = 13 ∨ zz = 14 ∨ zz = 15 := lt16 hzz
    rcases hz16 with rfl | rfl | rfl | rfl | rfl | rfl | rfl | rfl | rfl | rfl | rfl | rfl | rfl | rfl | rfl | rfl
    · exact ⟨t1, rfl, R1.le (le5.trans (le6.trans (le7.trans (le8.trans (le9.trans (le10.trans (le11.trans (le12.trans (le13.trans (le14.trans (le15.trans (le16.trans (le17.trans (le18.trans (le19.trans (le20.trans (le21.trans (le22.trans (le23.trans (le24.trans (le25.trans (le26.trans (le27.trans (le28.trans (le29.trans (le30.trans (le31.trans (le32.trans (le33.trans (le34.trans (le35.trans (le36.trans (le37.trans (le38.trans (le39.trans (le40.trans (le41.trans (le42.trans (le43.trans (le44.trans (le45.trans (le46.trans (le47.trans (le48.trans (le49)))))))))))))))))))))))))))))))))))))))))))))⟩
    · exact ⟨t2, rfl, R2.le (le7.trans (le8.trans (le9.trans (le10.trans (le11.trans (le12.trans (le13.trans (le14.trans (le15.trans (le16.trans (le17.trans (le18.trans (le19.trans (le20.trans (le21.trans (le22.trans (le23.trans (le24.trans (le25.trans (le26.trans (le27.trans (le28.trans (le29.trans (le30.trans (le31.trans (le32.trans (le33.trans (le34.trans (le35.trans (le36.trans (le37.trans (le38.trans (le39.trans (le40.trans (le41.trans (le42.trans (le43.trans (le44.trans (le45.trans (le46.trans (le47.trans (le48.trans (le49)))))))))))))))))))))))))))))))))))))))))))⟩
    · exact ⟨t3, rfl, R3.le (le9.trans (le10.trans (le11.trans (le12.trans (le13.trans (le14.trans (le15.trans (le16.trans (le17.trans (le18.trans (le19.trans (le20.trans (le21.trans (le22.trans (le23.trans (le24.trans (le25.trans (le26.trans (le27.trans (le28.trans (le29.trans (le30.trans (le31.trans (le32.trans (le33.trans (le34.trans (le35.trans (le36.trans (le37.trans (le38.trans (le39.trans (le40.trans (le41.trans (le42.trans (le43.trans (le44.trans (le45.trans (le46.trans (le47.trans (le48.trans (le49)))))))))))))))))))))))))))))))))))))))))⟩
    · exact ⟨t4, rfl, R4.le (le11.trans (le12.trans (le13.trans (le14.trans (le15.trans (le16.trans (le17.trans (le18.trans (le19.trans (le20.trans (le21.trans (le22.trans (le23.trans (le24.trans (le25.trans (le26.trans (le27.trans (le28.trans (le29.trans (le30.trans (le31.trans (le32.trans (le33.trans (le34.trans (le35.trans (le36.trans (le37.trans (le38.trans (le39.trans (le40.trans (le41.trans (le42.trans (le43.trans (le44.trans (le45.trans (le46.trans (le47.trans (le48.trans (le49)))))))))))))))))))))))))))))))))))))))⟩
    · exact ⟨t5, rfl, R5.le (le16.trans (le17.trans (le18.trans (le19.trans (le20.trans (le21.trans (le22.trans (le23.trans (le24.trans (le25.trans (le26.trans (le27.trans (le28.trans (le29.trans (le30.trans (le31.trans (le32.trans (le33.trans (le34.trans (le35.trans (le36.trans (le37.trans (le38.trans (le39.trans (le40.trans (le41.trans (le42.trans (le43.trans (le44.trans (le45.trans (le46.trans (le47.trans (le48.trans (le49))))))))))))))))))))))))))))))))))⟩
    · exact ⟨t6, rfl, R6.le (le20.trans (le21.trans (le22.trans (le23.trans (le24.trans (le25.trans (le26.trans (le27.trans (le28.trans (le29.trans (le30.trans (le31.trans (le32.trans (le33.trans (le34.trans (le35.trans (le36.trans (le37.trans (le38.trans (le39.trans (le40.trans (le41.trans (le42.trans (le43.trans (le44.trans (le45.trans (le46.trans (le47.trans (le48.trans (le49))))))))))))))))))))))))))))))⟩
    · exact ⟨t7, rfl, R7.le (le26.trans (le27.trans (le28.trans (le29.trans (le30.trans (le31.trans (le32.trans (le33.trans (le34.trans (le35.trans (le36.trans (le37.trans (le38.trans (le39.trans (le40.trans (le41.trans (le42.trans (le43.trans (le44.trans (le45.trans (le46.trans (le47.trans (le48.trans (le49))))))))))))))))))))))))⟩
    · exact ⟨t8, rfl, R8.le (le28.trans (le29.trans (le30.trans (le31.trans (le32.trans (le33.trans (le34.trans (le35.trans (le36.trans (le37.trans (le38.trans (le39.trans (le40.trans (le41.trans (le42.trans (le43.trans (le44.trans (le45.trans (le46.trans (le47.trans (le48.trans (le49))))))))))))))))))))))⟩
    · exact ⟨t9, rfl, R9.le (le30.trans (le31.trans (le32.trans (le33.trans (le34.trans (le35.trans (le36.trans (le37.trans (le38.trans (le39.trans (le40.trans (le41.trans (le42.trans (le43.trans (le44.trans (le45.trans (le46.trans (le47.trans (le48.trans (le49))))))))))))))))))))⟩
    · exact ⟨t10, rfl, R10.le (le34.trans (le35.trans (le36.trans (le37.trans (le38.trans (le39.trans (le40.trans (le41.trans (le42.trans (le43.trans (le44.trans (le45.trans (le46.trans (le47.trans (le48.trans (le49))))))))))))))))⟩
    · exact ⟨t11, rfl, R11.le (le36.trans (le37.trans (le38.trans (le39.trans (le40.trans (le41.trans (le42.trans (le43.trans (le44.trans (le45.trans (le46.trans (le47.trans (le48.trans (le49))))))))))))))⟩
    · exact ⟨t12, rfl, R12.le (le38.trans (le39.trans (le40.trans (le41.trans (le42.trans (le43.trans (le44.trans (le45.trans (le46.trans (le47.trans (le48.trans (le49))))))))))))⟩
    · exact ⟨t13, rfl, R13.le (le40.trans (le41.trans (le42.trans (le43.trans (le44.trans (le45.trans (le46.trans (le47.trans (le48.trans (le49))))))))))⟩
    · exact ⟨t14, rfl, R14.le (le44.trans (le45.trans (le46.trans (le47.trans (le48.trans (le49))))))⟩
    · exact ⟨t15, rfl, R15.le (le46.trans (le47.trans (le48.trans (le49))))⟩
    · exact ⟨t16, rfl, R16.le (le48.trans (le49))⟩
  obtain ⟨f, l, htup, hfv, hfr⟩ := hRs
  have htup := htup.le le50
  have hfv := hfv.le le50
  have hfr := fun g' le => hfr g' (le50.trans le)
  refine SB.lst (k := (zz : Int)) (.inl (hm5.le le50)) (by walk_at "M.om") (by walk_at "M.om") (u := .ref t) (by rw [Int.toNat_natCast]; exact ht) ?_
  walk_at "M.go"
  refine CA.fn (told_fn (nc := []) hfv (hfr _ (Le.rfl' _)) (by walk_at "M.om")) (by walk_at "M.om") (fun v g51 n51 le51 fr z1 => ?_) (fun _ _ _ z => z.elim)
  obtain ⟨l2, rfl, z1 | z1⟩ := z1
  · obtain ⟨_, _, z1, _⟩ := z1
    exact z1.elim
  obtain ⟨n1, rfl, rfl⟩ := z1
  walk_at "M.ds"
  walk_at "M.go"
  intro t52 g52 le52 ht52
  refine CO.eqStr2 (.inr (.head _)) (.inl ht52) ?_
  walk_at "M.go"
  exact ⟨rfl, [_], rfl⟩
end
end Mine

local macro_rules | `(tactic| walk_at "M.call") => `(tactic| ((with_reducible refine (?_ : Mine.EX _ _ _ _ (Expr.Call (Expr.Name "enumerate" _) (_ :: _) [] _) _ _)); refine' Mine.EX.callT ?hx ?hg ?hb ?hn ?hd ?_; (case hx => walk_at "M.lk"); (case hg => walk_at "M.is"); (case hb => boot_fast); (case hn => decide +kernel); (case hd => decide +kernel)))
namespace Mine
variable {c : Cx} {m : Loc} {g : View} {n : Led} {Φ : Post} {Ψ : XPost} {F : FPost}
def EnumO (it : Addr) (i : Nat) (o : Obj) : Prop := ∃ old, o = { cls := .type "enumerate", dict := none, data := .fields #[.none, .bool false, .ref it, rawInt i, .none, old], slots := #[] }
abbrev EnumL (e it l : Addr) (i : Nat) : Led := [(e, EnumO it i), (it, ItL l i)]
theorem CA.enum {l : Addr} {us : List Value} (hl : Lst g l us) (h : ∀ e it, (∀ a ∈ [e, it], c.h0.get? a = none) → Φ (.ref e) g (EnumL e it l 0 ++ n)) : CA c m g n (.type "enumerate") [.ref l] Φ Ψ := fun vs' hv s Q E S hQ hE => by
  cases hv with | cons a1 a2 =>
    cases a2; obtain rfl := a1.ref
    obtain ⟨its, hL, _⟩ := LAt.isL (.inl hl) S
    refine call_enumerate_list hL fun h' h1 h2 hz hk => ?_
    have f1 : s.heap.get? s.heap.objs.size = none := Heap.get?_fresh _
    have f2 : s.heap.get? (s.heap.objs.size + 1) = none := Heap.get?_none_of_le (Nat.le_succ _)
    have S1 := S.grow hk
    obtain ⟨o2, ho2, q2⟩ := h2
    have S2 := S1.claim (P := ItL l 0) (S.notin_g f1) (S.notin_n f1) (S.ne_L f1) (S.notin_fs f1) (S.keep.old f1) ho2 q2
    have S3 := S2.claim (P := EnumO s.heap.objs.size 0) (S.notin_g f2) (fun q => by
      rcases List.mem_cons.mp q with q | q
      · exact absurd q (Nat.succ_ne_self _)
      · exact S.notin_n f2 q) (S.ne_L f2) (S.notin_fs f2) (S.keep.old f2) h1 ⟨_, rfl⟩
    refine hQ _ g _ h' s.toks ⟨_, Is.rfl' _, h _ s.heap.objs.size (fun a ha => ?_)⟩ (Le.rfl' g) S3
    rcases List.mem_cons.mp ha with rfl | ha
    · exact S.keep.old f2
    · rw [List.mem_singleton.mp ha]; exact S.keep.old f1
theorem Iter.enum {elts : List Expr} {k : Nat} {tpos : Pos} {e it l : Addr} {N : Nat} {F1 : Nat → Value} {K : KI} (h1 : Lst g l ((List.range N).map F1)) (h0 : ∀ a ∈ [e, it], c.h0.get? a = none)
    (h : K (EnumL e it l) N (fun i u g => ∃ t, u = .ref t ∧ Tup g t [.int i 0, F1 i]) (fun g _ => Lst g l ((List.range N).map F1)) g n) :
    Iter c m g (EnumL e it l 0 ++ n) (.Tuple elts k tpos) (.ref e) K Ψ := fun v' hv s Q E S hQ hE => by
  obtain rfl := hv.ref
  obtain ⟨oe, hoe, old, rfl⟩ := S.sits.ld (e, EnumO it 0) (.head _)
  refine wpAny_pyIter_enum (it := it) hoe (hQ _ g _ s.heap s.toks ⟨e, EnumL e it l, N, _, _, n, rfl, rfl, fun c m g n s Q E S hQ => ?_, fun c hc0 i m g n n' hi hJ hsub Ψ => ⟨fun hlt => ?_, fun ei => ?_⟩, h⟩ (Le.rfl' g) S)
  · obtain ⟨oe, hoe, old, rfl⟩ := S.sits.ld (e, EnumO it 0) (.head _)
    exact wpAny_pyIter_enum (it := it) hoe hQ
  · intro s Q E S hQ hE
    obtain ⟨oe, hoe, old, rfl⟩ := S.sits.ld (e, EnumO it i) (.head _)
    obtain ⟨o1, ho1, q1⟩ := S.sits.ld (it, ItL l i) (.tail _ (.head _))
    obtain ⟨xs, hL1, hA1, e1⟩ := LAt.isL (.inl hJ) S
    obtain ⟨x, hx, ix⟩ := hA1.get (get_map hlt)
    rw [Array.getElem?_toList] at hx
    have nd : [e, it].Nodup := (List.nodup_append.mp (show ([e, it] ++ addrs n).Nodup from S.sits.nd)).1
    have hne : e ≠ it := fun q => (List.nodup_cons.mp nd).1 (by rw [q]; exact .head _)
    have hfr := Heap.get?_fresh s.heap
    refine wpAny_pyNext_enum_item hoe ⟨o1, ho1, q1⟩ hL1 hx hne fun h' a1 a2 a3 a4 a5 => ?_
    have S1 : St c m g ([(e, fun o => o = { cls := .type "enumerate", dict := none, data := .fields #[rawInt s.heap.objs.size, .bool false, .ref it, rawInt ((i : Int) + 1), .none, x], slots := #[] }), (it, ItL l (i + 1))] ++ n) h' :=
      S.change (l := EnumL e it l i) (List.Sublist.refl _) (by rw [hc0]; exact h0) (fun b o hb q => a5 b o (fun z => hb (by rw [z]; exact .head _)) (fun z => hb (by rw [z]; exact .tail _ (.head _))) q) (fun p hp => by
        rcases List.mem_cons.mp hp with rfl | hp
        · exact ⟨_, a1, rfl⟩
        · rw [List.mem_singleton.mp hp]; exact a2)
    have fT : s.heap.objs.size ∉ [e, it] ++ addrs n := S.notin_n hfr
    obtain ⟨le2, S2⟩ := S1.seen a3 (S.notin_g hfr) fT (S.ne_L hfr) (S.notin_fs hfr) (S.keep.old hfr)
    refine hQ _ _ _ h' _ ⟨.ref s.heap.objs.size, _, rfl, rfl, ⟨_, rfl, _, gset_self, _, _, rfl, .cons ⟨_, rfl⟩ (.cons ix .nil)⟩, ?_⟩ le2 S2
    intro s Q E S hQ hE
    obtain ⟨oz, hoz, rfl⟩ := S.sits.ld _ (.head _)
    dsimp only at hoz
    refine wpAny_letOwnedTupleGo_enum hoz fun h'' b1 b2 => ?_
    exact hQ () _ _ h'' s.toks ⟨rfl, rfl⟩ (Le.rfl' _) (S.swap .head b2 b1 ⟨x, by push_cast; rfl⟩)
  · intro s Q E S hQ hE
    subst ei
    obtain ⟨oe, hoe, old, rfl⟩ := S.sits.ld (e, EnumO it i) (.head _)
    obtain ⟨o1, ho1, q1⟩ := S.sits.ld (it, ItL l i) (.tail _ (.head _))
    obtain ⟨xs, hL1, hA1, e1⟩ := LAt.isL (.inl hJ) S
    refine wpAny_pyNext_enum_end S.hh hoe ⟨o1, ho1, q1⟩ hL1 (by rw [Array.getElem?_eq_none]; rw [← e1]; simp) fun h' hx => ?_
    refine hQ none g n h' s.toks ⟨rfl, rfl⟩ (Le.rfl' g) ?_
    exact S.change (l := EnumL e it l i) (l' := []) (List.nil_sublist _) (by rw [hc0]; exact h0) (fun b o hb q => hx b o (fun z => hb (by rw [z]; exact .tail _ (.head _))) q) (fun p hp => nomatch hp)
abbrev kUC (c : Cx) (m : Loc) (ax ay : Addr) (rest : List Stmt) (F : FPost) (Ψ : XPost) : Post := fun v g1 n1 => ∃ t u1 u2 n2 n3, v = .ref t ∧ Tup g1 t [u1, u2] ∧ Swap ax CelN (CelV u1) n1 n2 ∧ Swap ay CelN (CelV u2) n2 n3 ∧ SX c m g1 n3 rest F Ψ
theorem SX.asgUC {x y : Str} {px py : Pos} {k : Nat} {tpos pos : Pos} {rest : List Stmt} {value : Expr} {ax ay : Addr} (hx : c.sc.names.lookup x = some .cell) (hy : c.sc.names.lookup y = some .cell) (hcx : c.cl.lookup x = some ax) (hcy : c.cl.lookup y = some ay)
    (h : EX c m g n value (kUC c m ax ay rest F Ψ) Ψ)
    (hw : swappedStores [.Tuple [.Name x px, .Name y py] k tpos] value c.env = pure none)
    (hs : swapsWithSole [.Tuple [.Name x px, .Name y py] k tpos] value pos.line c.env = pure false := by rfl)
    (hst : (assignEach [.Name x px, .Name y py] c.env).findIdx? (·.1) = none := by rfl) (he : (assignEach [.Name x px, .Name y py] c.env).map (·.2) = [fun v => PySem.assign (.Name x px) c.env v, fun v => PySem.assign (.Name y py) c.env v] := by rfl) :
    SX c m g n (.Assign [.Tuple [.Name x px, .Name y py] k tpos] value pos :: rest) F Ψ :=
  SX.cons fun s Q E S hQ hE => by
    refine Assign_Tuple (h s _ E S (fun v' g1 n1 h1 tk z le S1 => ?_) fun x g' n' h' tk z le S' X => hE x m g' n' h' tk z le S' X) hs hw
    obtain ⟨v, hv, t, u1, u2, n2, n3, rfl, ht, U1, U2, kk⟩ := z
    obtain rfl := hv.ref
    obtain ⟨its, hT, hI⟩ := ht.isTup S1
    have hlen : (assignEach [Expr.Name x px, Expr.Name y py] c.env).length = its.size := by
      have := congrArg List.length he
      rw [List.length_map] at this
      rw [this]
      have := hI.length
      simpa using this
    refine assign_Tuple_tuple (s := { s with heap := h1, toks := tk }) S1.hh hT hlen hst fun h' hx' => ?_
    rw [he]
    generalize its.toList = l at hI
    cases hI with | cons i1 hI => cases hI with | cons i2 hI =>
      cases hI
      have S2 := S1.extBut hx'
      refine assignInOrder_cons (PyProof.Rows.assign_Name (storeC_sig (s := { s with heap := h', toks := tk }) S2 hx hcx U1 CelN.cell i1 fun h2 tk2 S3 => ?_))
      refine assignInOrder_cons (PyProof.Rows.assign_Name (storeC_sig (s := { s with heap := h2, toks := tk2 }) S3 hy hcy U2 CelN.cell i2 fun h3 tk3 S4 => ?_))
      exact assignInOrder_nil (hQ .next .next m g1 n3 h3 tk3 kk .next le S4)
end Mine

local macro_rules | `(tactic| walk_at "M.x") => `(tactic| ((with_reducible refine (?_ : Mine.SX _ _ _ _ (Stmt.Assign [Expr.Tuple [Expr.Name "word" _, _] _ _] _ _ :: _) _ _)); refine Mine.SX.asgUC (by walk_at "M.lk") (by walk_at "M.lk") (by assumption) (by assumption) ?_ (Mine.sw_of (by assumption) (fun _ _ _ _ _ _ => by kernel_rfl))))
namespace Mine
variable {c : Cx} {m : Loc} {g : View} {n : Led} {Φ : Post} {Ψ : XPost} {F : FPost}
theorem CA.permPost {f : Value} {vs : List Value} (h : CA c m g n f vs (fun v g1 n1 => ∃ n2, n1.Perm n2 ∧ Φ v g1 n2) Ψ) : CA c m g n f vs Φ Ψ := fun vs' hv s Q E S hQ hE =>
  h vs' hv s Q E S (fun a g' n' h' tk z le S' => by
    obtain ⟨v, hv, n2, p, k⟩ := z
    exact hQ a g' n2 h' tk ⟨v, hv, k⟩ le (S'.perm p)) hE
def sel (p : Nat → Bool) (N : Nat) : List Value := ((List.range N).filter p).map (fun j : Nat => .int (j : Int) 0)
theorem sel_succ {p : Nat → Bool} {N : Nat} : sel p (N + 1) = if p N = true then sel p N ++ [.int (N : Int) 0] else sel p N := by
  unfold sel
  rw [List.range_succ, List.filter_append, List.map_append]
  by_cases h : p N = true
  · rw [if_pos h, List.filter_cons_of_pos h]; rfl
  · rw [if_neg h, List.filter_cons_of_neg h]; simp
theorem sel_none {p : Nat → Bool} : ∀ {N : Nat}, (∀ j, j < N → p j = false) → sel p N = []
  | 0, _ => rfl
  | N + 1, h => by rw [sel_succ, h N (by walk_at "M.om"), if_neg (by simp), sel_none fun j hj => h j (by walk_at "M.om")]
theorem sel_first {p : Nat → Bool} {i : Nat} (hp : p i = true) (hno : ∀ j, j < i → p j = false) : ∀ {N : Nat}, i < N → ∃ r, sel p N = .int (i : Int) 0 :: r
  | 0, h => absurd h (by walk_at "M.om")
  | N + 1, h => by
    rw [sel_succ]
    rcases Nat.eq_or_lt_of_le (Nat.le_of_lt_succ h) with rfl | h
    · rw [if_pos hp, sel_none hno]; exact ⟨[], rfl⟩
    · obtain ⟨r, e⟩ := sel_first hp hno h
      rw [e]
      split
      · exact ⟨_, rfl⟩
      · exact ⟨_, rfl⟩
theorem sel_len {p : Nat → Bool} : ∀ {N : Nat}, (sel p N).length ≤ N
  | 0 => Nat.le_refl _
  | N + 1 => by
    rw [sel_succ]
    have := sel_len (p := p) (N := N)
    split
    · rw [List.length_append]; exact Nat.add_le_add this (Nat.le_refl _)
    · omega
abbrev WKL (cw ck : Addr) (z1 z2 : Nat) : Led := [(cw, CelV (.int z1 0)), (ck, CelV (.int z2 0))]
section
variable {w : World} {h₀ : Heap} {dk dl rt pl tl : Addr} {us : List Value} {k : Nat} {P : Nat → Addr} {T : Nat → Value} {τ : Nat → Tag} {a q : Nat} {t1 t2 : Option Addr}
theorem by_look_fn (hD : Deck g dl us) (hR : RingV g rt pl tl P T τ a q) (hk : k ≤ 10000) (ht1 : ∀ c', t1 = some c' → CodeG g c' qF) (ht2 : ∀ c', t2 = some c' → CodeG g c' qW) :
    FN w h₀ (.ref 686) [.ref dk, .ref rt] g [DkL dk dl k, (443, TabP 242 29 t1), (476, TabP 276 30 t2)] 12 (fun v g' n' => v = .bool true ∧ ∃ n0 t1' t2', n' = n0 ++ [DkL dk dl (k + 2), (443, TabP 242 29 t1'), (476, TabP 276 30 t2')] ∧ (∀ c', t1' = some c' → CodeG g' c' qF) ∧ (∀ c', t2' = some c' → CodeG g' c' qW)) (fun _ _ => False) := by
  refine' FN.ofC (ps := ["deck", "ring"]) (rest := ["pairs", "things", "ahead", "deed", "spots", "halves", "heard"]) (lps := [(("deck" : Str), .ref dk), (("ring" : Str), .ref rt)]) ["word", "key"] ?ho ?hcd ?hb ?hl ?hlps ?hn ?hps ?hrest ?hnd ?hcn ?hcn' ?hco ?hg ?hk ?h
  walk_at "M.entc"
  intro c g1 ca hw hh0 hsc hk' hn0 hcomp hcd hnm G hle hcells hcn
  subst hw hh0
  walk_at "M.ds"
  have hcw := hcn "word" (.head _)
  have hck := hcn "key" (.tail _ (.head _))
  have hD1 := hD.le hle
  have hR1 := hR.le hle
  have ht := hR1.tup
  have hq0 := hR.ring.m0
  have ha4 := hR.ha
  have hq5 := hR.hq
  have hpp : ∀ i j, P i = P j → τ i = τ j := fun i j e => (hR.pT i j e).2
  refine SX.withBase fun hb1 => ?_
  walk_at "M.go"
  refine CA.draw 7 rfl hD1 (by walk_at "M.swap") (by walk_at "M.om") (by walk_at "M.om") (by walk_at "M.om") (by walk_at "M.om") fun z1 g2 hz1 le2 => ?_
  walk_at "M.go"
  refine CA.draw 5 rfl (hD1.le le2) (by walk_at "M.swap") (by walk_at "M.om") (by walk_at "M.om") (by walk_at "M.om") (by walk_at "M.om") fun z2 g3 hz2 le3 => ?_
  walk_at "M.go"
  intro tt g4 le4 htt
  have hD4 := ((hD1.le le2).le le3).le le4
  have hR4 := ((hR1.le le2).le le3).le le4
  refine ⟨tt, _, _, _, _, rfl, htt, .head, .tail .head, ?_⟩
  walk_at "M.go"
  intro dl7 g5 le5 hdl7
  walk_at "M.go"
  have le15 := le2.trans (le3.trans (le4.trans le5))
  have hbase : ∀ a o, c.h₀.get? a = some o → g5 a = some o := fun a o e => le15 _ _ (hb1 a o e)
  obtain ⟨f, hf, hz⟩ : ∃ f : Addr, [Value.ref 427, .ref 434, .ref 441, .ref 488, .ref 495, .ref 502, .ref 509][z1]? = some (.ref f) ∧ ((z1 < 3 ∧ (f = 427 ∨ f = 434 ∨ f = 441)) ∨ (3 ≤ z1 ∧ ((decide (z1 < 5) = true ∧ (f = 488 ∨ f = 495)) ∨ (decide (z1 < 5) = false ∧ (f = 502 ∨ f = 509))))) := by
    have : z1 = 0 ∨ z1 = 1 ∨ z1 = 2 ∨ z1 = 3 ∨ z1 = 4 ∨ z1 = 5 ∨ z1 = 6 := lt7 hz1
    rcases this with rfl | rfl | rfl | rfl | rfl | rfl | rfl
    · exact ⟨427, rfl, .inl ⟨by walk_at "M.om", .inl rfl⟩⟩
    · exact ⟨434, rfl, .inl ⟨by walk_at "M.om", .inr (.inl rfl)⟩⟩
    · exact ⟨441, rfl, .inl ⟨by walk_at "M.om", .inr (.inr rfl)⟩⟩
    · exact ⟨488, rfl, .inr ⟨by walk_at "M.om", .inl ⟨rfl, .inl rfl⟩⟩⟩
    · exact ⟨495, rfl, .inr ⟨by walk_at "M.om", .inl ⟨rfl, .inr rfl⟩⟩⟩
    · exact ⟨502, rfl, .inr ⟨by walk_at "M.om", .inr ⟨rfl, .inl rfl⟩⟩⟩
    · exact ⟨509, rfl, .inr ⟨by walk_at "M.om", .inr ⟨rfl, .inr rfl⟩⟩⟩
  have hfv : FV g5 f := by
    rcases hz with ⟨_, rfl | rfl | rfl⟩ | ⟨_, ⟨_, rfl | rfl⟩ | ⟨_, rfl | rfl⟩⟩
    · exact fv_is G hbase (f := 427) (by kernel_rfl)
    · exact fv_is G hbase (f := 434) (by kernel_rfl)
    · exact fv_is G hbase (f := 441) (by kernel_rfl)
    · exact fv_is G hbase (f := 488) (by kernel_rfl)
    · exact fv_is G hbase (f := 495) (by kernel_rfl)
    · exact fv_is G hbase (f := 502) (by kernel_rfl)
    · exact fv_is G hbase (f := 509) (by kernel_rfl)
  refine SB.lst (k := (z1 : Int)) (.inl hdl7) (by walk_at "M.om") (by simp; omega) (u := .ref f) (by rw [Int.toNat_natCast]; exact hf) ?_
  have hR5 := hR4.le le5
  walk_at "M.go"
  refine ⟨fun hw3 => ?_, fun hw3 => ?_⟩
  · have hw3 : (z1 : Int) < 3 := of_decide_eq_true hw3
    have hf3 : f = 427 ∨ f = 434 ∨ f = 441 := by rcases hz with ⟨_, h⟩ | ⟨h, _⟩; exact h; omega
    refine SX.asgComp ["key"] [("at", none), ("thing", none)] ?_ (one_ex ⟨_, hck⟩) hsc hcomp (by kernel_rfl) (by kernel_rfl) (by kernel_rfl) rfl (by kernel_rfl) rfl (by decide +kernel) (by kernel_rfl) (swap_of hsc (fun _ _ _ _ _ _ => by kernel_rfl))
    walk_at "M.go"
    refine CA.enum hR5.tls fun e it h0 => ?_
    refine Iter.enum hR5.tls h0 ?_
    let L5 : Led := [(ca "word", CelV (.int z1 0)), (ca "key", CelV (.int z2 0)), DkL dk dl (k + 1 + 1), (443, TabP 242 29 t1), (476, TabP 276 30 t2)]
    refine ⟨fun i ys g n => i ≤ a + q ∧ Le g5 g ∧ ys = sel (fun i => pNum z2 (τ i)) i ∧ n = L5, ⟨Nat.zero_le _, Le.rfl' _, rfl, rfl⟩, ?_, ?_, ?_⟩
    · rintro i ys g n ⟨hi, le, rfl, _⟩
      have := sel_len (p := fun i => pNum z2 (τ i)) (N := i)
      exact ⟨hR5.tls.le le, by walk_at "M.om"⟩
    · rintro cc D2 hw2 hh2 hsc2 hk2 h02 hcomp2 hcl2 i ys u g8 g9 n1 le8 hi ⟨_, le58, rfl, rfl⟩ le9 ⟨tp, rfl, htp⟩
      have hcc := (hcl2 "key" (.head _)).trans hck
      refine AG.tup htp rfl (by walk_at "M.putAll") ?_
      have hth := (hR5.thg i).le (le58.trans le9)
      refine TS.one ?_
      dsimp only [L5]
      cases e : τ i with
      | num z =>
        rw [e] at hth
        rw [show T i = _ from hth]
        walk_at "M.go"
        have hpe : pNum (z2 : Int) (τ i) = ((z : Int) == (z2 : Int)) := by rw [e]; exact BEq.comm
        refine ⟨fun hz => ?_, fun hz => ?_⟩
        · rw [hz] at hpe
          walk_at "M.go"
          refine ⟨_, rfl, by walk_at "M.om", le58.trans le9, ?_, rfl⟩
          rw [sel_succ, if_pos hpe]
        · rw [hz] at hpe
          refine ⟨fun h => (by cases h), fun _ => ⟨_, rfl, by walk_at "M.om", le58.trans le9, ?_, rfl⟩⟩
          rw [sel_succ, if_neg (by rw [hpe]; simp)]
      | pair x y =>
        rw [e] at hth
        obtain ⟨d, hd1, hd2⟩ := hth
        rw [hd1]
        walk_at "M.go"
        refine ⟨_, rfl, by walk_at "M.om", le58.trans le9, ?_, rfl⟩
        rw [sel_succ, if_neg (by rw [e]; exact Bool.false_ne_true)]
    · rintro D2 ys g8 g9 n1 le8 ⟨_, le58, rfl, rfl⟩ le9 hD0
      walk_at "M.s"
      refine SX.frzL hD0 fun g10 le10 hsp => ?_
      have hR10 := (hR5.le (le58.trans le9)).le le10
      have le510 := le58.trans (le9.trans le10)
      have hfv10 := hfv.le le510
      dsimp only [L5]
      walk_at "M.go"
      refine SB.lst (k := 0) (.inl hR10.pls) (by walk_at "M.om") (by walk_at "M.om") (u := .ref (P 0)) (get_map (by walk_at "M.om")) ?_
      walk_at "M.go"
      intro l8 g11 le11 hl8
      walk_at "M.go"
      have hR11 := hR10.le le11
      have le111 := hle.trans (le15.trans (le510.trans le11))
      refine CA.permPost ?_
      refine CA.fnP (pre := [(ca "word", CelV (.int z1 0)), (ca "key", CelV (.int z2 0)), DkL dk dl (k + 1 + 1)]) (nc := [(443, TabP 242 29 t1)]) (post := [(476, TabP 276 30 t2)]) (told_fn (hfv10.le le11) (mem_fn f hf3 hR11.ring hR11.thg hl8 hpp (fun c' e => (ht1 c' e).le le111)) (by walk_at "M.om")) (by walk_at "M.om") (fun v g12 n12 le12 fr z => ?_) (fun _ _ _ z => z.elim)
      have hsp12 := (hsp.le le11).le le12
      have hR12 := hR11.le le12
      obtain ⟨hl, rfl, ⟨r, n1, ⟨c', i, rfl, hcg, hiN, hpi, hpn, rfl⟩, rfl⟩ | ⟨n1, ⟨c', rfl, hcg, hno⟩, rfl⟩⟩ := z
      · refine ⟨_, List.perm_middle (l₁ := [(ca "word", CelV (.int z1 0)), (ca "key", CelV (.int z2 0)), DkL dk dl (k + 1 + 1)]), ?_⟩
        obtain ⟨r, hr⟩ := sel_first hpi hpn hiN
        rw [hr] at hsp12
        walk_at "M.ds"
        walk_at "M.go"
        intro te g13 le13 hte
        refine CO.eqNil (.inl (hsp12.le le13)) (.inl hte) ?_
        dsimp only [List.isEmpty]
        walk_at "M.go"
        refine CO.eqStr ?_
        rw [show (("told" : Str) == ("told" : Str)) = true from by decide +kernel]
        walk_at "M.go"
        rw [show decide ((z1 : Int) < 3) = true from decide_eq_true hw3]
        walk_at "M.go"
        refine SB.lst (k := (i : Int)) (.inl (hR12.le le13).pls) (by walk_at "M.om") (by simp; omega) (u := .ref (P i)) (by rw [Int.toNat_natCast]; exact get_map hiN) ?_
        have hc13 := (hR12.le le13).ring.cel i
        walk_at "M.go"
        rw [decide_eq_true rfl]
        walk_at "M.go"
        exact ⟨rfl, [_, _, _], some c', t2, rfl, fun c2 e => by cases e; exact hcg.le le13, fun c2 e => (ht2 c2 e).le (le111.trans (le12.trans le13))⟩
      · refine ⟨_, List.perm_middle (l₁ := [(ca "word", CelV (.int z1 0)), (ca "key", CelV (.int z2 0)), DkL dk dl (k + 1 + 1)]), ?_⟩
        have hr : sel (fun i => pNum z2 (τ i)) (a + q) = [] := sel_none hno
        rw [hr] at hsp12
        walk_at "M.ds"
        walk_at "M.go"
        intro te g13 le13 hte
        refine CO.eqNil (.inl (hsp12.le le13)) (.inl hte) ?_
        dsimp only [List.isEmpty]
        walk_at "M.go"
        intro t52 g14 le14 ht52
        refine CO.eqStr2 (.inr (.head _)) (.inl ht52) ?_
        walk_at "M.go"
        exact ⟨rfl, [_, _, _], some c', t2, rfl, fun c2 e => by cases e; exact hcg.le (le13.trans le14), fun c2 e => (ht2 c2 e).le (le111.trans (le12.trans (le13.trans le14)))⟩
  · have hw3 : ¬ (z1 : Int) < 3 := of_decide_eq_false hw3
    have hf3 : (decide (z1 < 5) = true ∧ (f = 488 ∨ f = 495)) ∨ (decide (z1 < 5) = false ∧ (f = 502 ∨ f = 509)) := by rcases hz with ⟨h, _⟩ | ⟨_, h⟩; omega; exact h
    obtain ⟨b, hb, hfb⟩ : ∃ b : Bool, decide ((z1 : Int) < 5) = !b ∧ ((b = false ∧ (f = 488 ∨ f = 495)) ∨ (b = true ∧ (f = 502 ∨ f = 509))) := by
      rcases hf3 with ⟨h, r⟩ | ⟨h, r⟩
      · exact ⟨false, decide_eq_true (by have := of_decide_eq_true h; omega), .inl ⟨rfl, r⟩⟩
      · exact ⟨true, decide_eq_false (by have := of_decide_eq_false h; omega), .inr ⟨rfl, r⟩⟩
    let L5 : Led := [(ca "word", CelV (.int z1 0)), (ca "key", CelV (.int z2 0)), DkL dk dl (k + 1 + 1), (443, TabP 242 29 t1), (476, TabP 276 30 t2)]
    let hv : Nat → Value := fun i => match τ i with | .num _ => .int (-1) 0 | .pair x y => .int (if b then (y : Int) else (x : Int)) 0
    refine SX.asgComp ["word"] [("thing", none)] ?_ (one_ex ⟨_, hcw⟩) hsc hcomp (by kernel_rfl) (by kernel_rfl) (by kernel_rfl) rfl (by kernel_rfl) rfl (by decide +kernel) (by kernel_rfl) (swap_of hsc (fun _ _ _ _ _ _ => by kernel_rfl))
    walk_at "M.go"
    refine Iter.lst (.inl hR5.tls) fun it => ?_
    refine ⟨fun i ys g n => i ≤ a + q ∧ Le g5 g ∧ ys = (List.range i).map hv ∧ n = L5, ⟨Nat.zero_le _, Le.rfl' _, rfl, rfl⟩, ?_, ?_, ?_⟩
    · rintro i ys g n ⟨hi, le, rfl, _⟩
      exact ⟨.inl (hR5.tls.le le), by simp; omega⟩
    · rintro cc D2 hw2 hh2 hsc2 hk2 h02 hcomp2 hcl2 i ys u g8 g9 n1 le8 hi ⟨_, le58, rfl, rfl⟩ le9 hu
      have hi : i < a + q := by simpa using hi
      rw [get_map hi] at hu
      cases hu
      have hcc := (hcl2 "word" (.head _)).trans hcw
      refine AG.name (by walk_at "M.put") ?_
      have hth := (hR5.thg i).le (le58.trans le9)
      refine TS.nil ?_
      refine ⟨fun _ => ?_, fun h => by cases h⟩
      dsimp only [L5]
      have hvi : (List.range i).map hv ++ [hv i] = (List.range (i + 1)).map hv := map_snoc'
      cases e : τ i with
      | num z =>
        rw [e] at hth
        have hv1 : hv i = .int (-1) 0 := by dsimp only [hv]; rw [e]
        rw [hv1] at hvi
        rw [show T i = _ from hth]
        walk_at "M.go"
        exact ⟨_, rfl, by walk_at "M.om", le58.trans le9, hvi, rfl⟩
      | pair x y =>
        rw [e] at hth
        have hv1 : hv i = .int (if b then (y : Int) else (x : Int)) 0 := by dsimp only [hv]; rw [e]
        rw [hv1] at hvi
        obtain ⟨d, hd1, hd2⟩ := hth
        rw [hd1]
        walk_at "M.go"
        rw [hb]
        cases b with
        | false =>
          walk_at "M.go"
          exact ⟨_, rfl, by walk_at "M.om", le58.trans le9, hvi, rfl⟩
        | true =>
          walk_at "M.go"
          exact ⟨_, rfl, by walk_at "M.om", le58.trans le9, hvi, rfl⟩
    · rintro D2 ys g8 g9 n1 le8 ⟨hlen, le58, rfl, rfl⟩ le9 hD0
      have hlen2 : ((List.range (a + q)).map T).length = a + q := by simp
      rw [hlen2]
      walk_at "M.s"
      refine SX.frzL hD0 fun g10 le10 hhv => ?_
      have hR10 := (hR5.le (le58.trans le9)).le le10
      have le510 := le58.trans (le9.trans le10)
      refine SX.asgComp ["key"] [("at", none), ("half", none)] ?_ (one_ex ⟨_, hck⟩) hsc hcomp (by kernel_rfl) (by kernel_rfl) (by kernel_rfl) rfl (by kernel_rfl) rfl (by decide +kernel) (by kernel_rfl) (swap_of hsc (fun _ _ _ _ _ _ => by kernel_rfl))
      walk_at "M.go"
      have hle510 := le510
      refine CA.enum hhv fun e it2 h0 => ?_
      refine Iter.enum hhv h0 ?_
      refine ⟨fun i ys g n => i ≤ a + q ∧ Le g10 g ∧ ys = sel (fun i => pHalf b z2 (τ i)) i ∧ n = L5, ⟨Nat.zero_le _, Le.rfl' _, rfl, rfl⟩, ?_, ?_, ?_⟩
      · rintro i ys g n ⟨hi, le, rfl, _⟩
        have := sel_len (p := fun i => pHalf b z2 (τ i)) (N := i)
        exact ⟨hhv.le le, by walk_at "M.om"⟩
      · rintro cc D3 hw2 hh2 hsc2 hk2 h02 hcomp2 hcl2 i ys u g11 g12 n1 le11 hi ⟨_, le1011, rfl, rfl⟩ le12 ⟨tp, rfl, htp⟩
        have hcc := (hcl2 "key" (.head _)).trans hck
        refine AG.tup htp rfl (by walk_at "M.putAll") ?_
        refine TS.one ?_
        dsimp only [L5]
        obtain ⟨v, hv1, hpe⟩ : ∃ v : Int, hv i = .int v 0 ∧ pHalf b (z2 : Int) (τ i) = (v == (z2 : Int)) := by
          dsimp only [hv]
          cases τ i with
          | num z =>
            refine ⟨-1, rfl, ?_⟩
            have : ((-1 : Int) == (z2 : Int)) = false := by rw [beq_eq_false_iff_ne]; omega
            rw [this]; rfl
          | pair x y => exact ⟨_, rfl, BEq.comm⟩
        rw [hv1]
        walk_at "M.go"
        refine ⟨fun hz => ?_, fun hz => ?_⟩
        · rw [hz] at hpe
          walk_at "M.go"
          refine ⟨_, rfl, by walk_at "M.om", le1011.trans le12, ?_, rfl⟩
          rw [sel_succ, if_pos hpe]
        · rw [hz] at hpe
          refine ⟨_, rfl, by walk_at "M.om", le1011.trans le12, ?_, rfl⟩
          rw [sel_succ, if_neg (by rw [hpe]; simp)]
      · rintro D3 ys g11 g12 n1 le11 ⟨_, le1011, rfl, rfl⟩ le12 hD30
        walk_at "M.s"
        refine SX.frzL hD30 fun g13 le13 hsp => ?_
        have hR13 := (hR10.le (le1011.trans le12)).le le13
        have le513 := le510.trans (le1011.trans (le12.trans le13))
        have hfv13 := hfv.le le513
        dsimp only [L5]
        walk_at "M.go"
        refine SB.lst (k := 0) (.inl hR13.pls) (by walk_at "M.om") (by walk_at "M.om") (u := .ref (P 0)) (get_map (by walk_at "M.om")) ?_
        walk_at "M.go"
        intro l8 g14 le14 hl8
        walk_at "M.go"
        have hR14 := hR13.le le14
        have le114 := hle.trans (le15.trans (le513.trans le14))
        refine CA.permPost ?_
        refine CA.fnP (pre := [(ca "word", CelV (.int z1 0)), (ca "key", CelV (.int z2 0)), DkL dk dl (k + 1 + 1), (443, TabP 242 29 t1)]) (nc := [(476, TabP 276 30 t2)]) (post := []) (told_fn (hfv13.le le14) (ass_fn f b hfb hR14.ring hR14.thg hl8 hpp (fun c' e => (ht2 c' e).le le114)) (by walk_at "M.om")) (by walk_at "M.om") (fun v g15 n15 le15 fr z => ?_) (fun _ _ _ z => z.elim)
        have hsp15 := (hsp.le le14).le le15
        have hR15 := hR14.le le15
        obtain ⟨hl, rfl, ⟨r, n1, ⟨c', i, rfl, hcg, hiN, hpi, hpn, rfl⟩, rfl⟩ | ⟨n1, ⟨c', rfl, hcg, hno⟩, rfl⟩⟩ := z
        · refine ⟨_, List.perm_middle (l₁ := [(ca "word", CelV (.int z1 0)), (ca "key", CelV (.int z2 0)), DkL dk dl (k + 1 + 1), (443, TabP 242 29 t1)]), ?_⟩
          obtain ⟨r, hr⟩ := sel_first hpi hpn hiN
          have hsp15 : Lst g15 D3 (.int (i : Int) 0 :: r) := hr ▸ hsp15
          walk_at "M.ds"
          walk_at "M.go"
          intro te g16 le16 hte
          refine CO.eqNil (.inl (hsp15.le le16)) (.inl hte) ?_
          dsimp only [List.isEmpty]
          walk_at "M.go"
          refine CO.eqStr ?_
          rw [show (("told" : Str) == ("told" : Str)) = true from by decide +kernel]
          walk_at "M.go"
          rw [show decide ((z1 : Int) < 3) = false from decide_eq_false hw3]
          walk_at "M.go"
          refine SB.lst (k := (i : Int)) (.inl (hR15.le le16).tls) (by walk_at "M.om") (by simp; omega) (u := T i) (by rw [Int.toNat_natCast]; exact get_map hiN) ?_
          obtain ⟨d, x, y, hTd, hcd⟩ : ∃ d x y, T i = .ref d ∧ Cel g16 d x y := by
            have hth := (hR15.le le16).thg i
            cases e : τ i with
            | num z => have hpi2 : pHalf b z2 (τ i) = true := hpi; rw [e] at hpi2; exact absurd hpi2 Bool.false_ne_true
            | pair x y =>
              rw [e] at hth
              obtain ⟨d, h1, h2⟩ := hth
              exact ⟨d, _, _, h1, h2⟩
          rw [hTd]
          walk_at "M.go"
          rw [decide_eq_true rfl]
          walk_at "M.go"
          exact ⟨rfl, [_, _, _], t1, some c', rfl, fun c2 e => (ht1 c2 e).le (le114.trans (le15.trans le16)), fun c2 e => by cases e; exact hcg.le le16⟩
        · refine ⟨_, List.perm_middle (l₁ := [(ca "word", CelV (.int z1 0)), (ca "key", CelV (.int z2 0)), DkL dk dl (k + 1 + 1), (443, TabP 242 29 t1)]), ?_⟩
          have hr : sel (fun i => pHalf b z2 (τ i)) (a + q) = [] := sel_none hno
          rw [hr] at hsp15
          walk_at "M.ds"
          walk_at "M.go"
          intro te g16 le16 hte
          refine CO.eqNil (.inl (hsp15.le le16)) (.inl hte) ?_
          dsimp only [List.isEmpty]
          walk_at "M.go"
          intro t52 g17 le17 ht52
          refine CO.eqStr2 (.inr (.head _)) (.inl ht52) ?_
          walk_at "M.go"
          exact ⟨rfl, [_, _, _], t1, some c', rfl, fun c2 e => (ht1 c2 e).le (le114.trans (le15.trans (le16.trans le17))), fun c2 e => by cases e; exact hcg.le (le16.trans le17)⟩
end
end Mine

namespace Mine
variable {c : Cx} {m : Loc} {g : View} {n : Led} {Φ : Post} {Ψ : XPost} {F : FPost}
theorem CA.dropPost {f : Value} {vs : List Value} (h : CA c m g n f vs (fun v g1 n1 => ∃ n0 n2, n1.Perm (n0 ++ n2) ∧ Φ v g1 n2) Ψ) : CA c m g n f vs Φ Ψ := fun vs' hv s Q E S hQ hE =>
  h vs' hv s Q E S (fun a g' n' h' tk z le S' => by
    obtain ⟨v, hv, n0, n2, p, k⟩ := z
    exact hQ a g' n2 h' tk ⟨v, hv, k⟩ le (S'.perm p).dropL) hE
theorem perm_mid {α : Type} (pre n0 r : List α) : (pre ++ (n0 ++ r)).Perm (n0 ++ (pre ++ r)) := by
  rw [← List.append_assoc, ← List.append_assoc]
  exact List.Perm.append_right r List.perm_append_comm
theorem deed_ca {dk dl rt pl tl : Addr} {us : List Value} {k : Nat} {P : Nat → Addr} {T : Nat → Value} {τ : Nat → Tag} {a q : Nat} {t1 t2 : Option Addr} {pre : Led} {f : Addr} (hf : f = 676 ∨ f = 681 ∨ f = 686 ∨ f = 693 ∨ f = 698) (hD : Deck g dl us) (hR : RingV g rt pl tl P T τ a q) (hk : k ≤ 10000) (ht1 : ∀ c', t1 = some c' → CodeG g c' qF) (ht2 : ∀ c', t2 = some c' → CodeG g c' qW) (hck : 12 ≤ c.k)
    (h : ∀ g' k' t1' t2', Le g g' → k' ≤ k + 5 → (∀ c', t1' = some c' → CodeG g' c' qF) → (∀ c', t2' = some c' → CodeG g' c' qW) → Φ (.bool true) g' (pre ++ [DkL dk dl k', (443, TabP 242 29 t1'), (476, TabP 276 30 t2')])) :
    CA c m g (pre ++ [DkL dk dl k, (443, TabP 242 29 t1), (476, TabP 276 30 t2)]) (.ref f) [.ref dk, .ref rt] Φ Ψ := by
  have e : pre ++ [DkL dk dl k, (443, TabP 242 29 t1), (476, TabP 276 30 t2)] = pre ++ [DkL dk dl k] ++ [(443, TabP 242 29 t1), (476, TabP 276 30 t2)] := by simp
  rcases hf with rfl | rfl | rfl | rfl | rfl
  · rw [e]
    refine CA.fnP (by_place_fn hD hR hk) (by walk_at "M.om") (fun v g' n' le _ z => ?_) (fun _ _ _ z => z.elim)
    obtain ⟨rfl, rfl⟩ := z
    have := h g' (k + 2) t1 t2 le (by walk_at "M.om") (fun c' e => (ht1 c' e).le le) (fun c' e => (ht2 c' e).le le)
    simpa using this
  · rw [e]
    refine CA.dropPost ?_
    refine CA.fnP (by_take_fn hD hR hk) (by walk_at "M.om") (fun v g' n' le _ z => ?_) (fun _ _ _ z => z.elim)
    obtain ⟨rfl, n0, rfl⟩ := z
    refine ⟨n0, _, ?_, h g' (k + 1) t1 t2 le (by walk_at "M.om") (fun c' e => (ht1 c' e).le le) (fun c' e => (ht2 c' e).le le)⟩
    simp only [List.append_assoc, List.cons_append, List.nil_append]
    exact perm_mid pre n0 _
  · refine CA.dropPost ?_
    rw [← List.append_nil (pre ++ _)]
    refine CA.fnP (by_look_fn hD hR hk ht1 ht2) (by walk_at "M.om") (fun v g' n' le _ z => ?_) (fun _ _ _ z => z.elim)
    obtain ⟨rfl, n0, s1, s2, rfl, h1, h2⟩ := z
    refine ⟨n0, _, ?_, h g' (k + 2) s1 s2 le (by walk_at "M.om") h1 h2⟩
    simp only [List.append_nil]
    exact perm_mid pre n0 _
  · rw [e]
    refine CA.dropPost ?_
    refine CA.fnP (by_end_fn hD hR hk) (by walk_at "M.om") (fun v g' n' le _ z => ?_) (fun _ _ _ z => z.elim)
    obtain ⟨rfl, n0, rfl⟩ := z
    refine ⟨n0, _, ?_, h g' (k + 3) t1 t2 le (by walk_at "M.om") (fun c' e => (ht1 c' e).le le) (fun c' e => (ht2 c' e).le le)⟩
    simp only [List.append_assoc, List.cons_append, List.nil_append]
    exact perm_mid pre n0 _
  · rw [e]
    refine CA.fnP (by_rest_fn hD hR hk) (by walk_at "M.om") (fun v g' n' le _ z => ?_) (fun _ _ _ z => z.elim)
    obtain ⟨rfl, k', hk', rfl⟩ := z
    have := h g' k' t1 t2 le hk' (fun c' e => (ht1 c' e).le le) (fun c' e => (ht2 c' e).le le)
    simpa using this
def LW (g : View) (l : Addr) (us : List Value) : Prop := ∃ o its k, g l = some o ∧ o.cls = .type "list" ∧ o.data = .seq its k ∧ AllIs us its.toList
theorem LW.isL {h : Heap} {l us} (x : LW g l us) (S : St c m g n h) : ∃ its, h.IsList l its ∧ AllIs us its.toList ∧ us.length = its.size := by
  obtain ⟨o, its, k, e, hc, hd, q⟩ := x
  exact ⟨its, ⟨o, S.sits.vw _ _ e, hc, k, hd⟩, q, by rw [q.length]; simp⟩
abbrev kSlW2 (o : Value) (Φ : Post) : Post := fun i g2 n2 => ∃ l us t, ∃ j : Nat, o = .ref l ∧ LW g2 l us ∧ i = .int j t ∧ us.length ≤ 1000000 ∧ ∀ r g3, Le g2 g3 → Lst g3 r (us.take j) → Φ (.ref r) g3 n2
abbrev kSlW (c : Cx) (m : Loc) (e : Expr) (Φ : Post) (Ψ : XPost) : Post := fun o g n => EX c m g n e (kSlW2 o Φ) Ψ
theorem EX.sliceToW {value e : Expr} {p pos : Pos} (h : EX c m g n value (kSlW c m e Φ Ψ) Ψ)
    (ht : ∀ o r, letTemporaryGo value o r = pure () := by intro _ _; rfl) : EX c m g n (.Subscript value (.Slice none (some e) none p) pos) Φ Ψ := fun s Q E S hQ hE => by
  refine wpAny_Subscript_list_slice ?_ ht
  refine h s _ E S (fun o' g1 n1 h1 tk z le S1 => ?_) hE
  obtain ⟨o, ho, k⟩ := z
  rw [evalPart_none]
  refine wpAny_pure ?_
  rw [evalPart_some]
  refine k { s with heap := h1, toks := tk } _ E S1 (fun i' g2 n2 h2 tk2 z le2 S2 => ?_) fun x g' n' h' tk' z le' S' X => hE x g' n' h' tk' z (le.trans le') S' X
  obtain ⟨i, hi, l, us, t, j, rfl, hl, rfl, hlen, k⟩ := z
  obtain rfl := ho.ref
  obtain ⟨t', rfl⟩ := hi.int
  obtain ⟨its, hL, hA, e0⟩ := hl.isL S2
  refine ⟨l, its, _, _, rfl, hL, by rw [sizeLine_eq]; omega, .none, .int _ _, ?_⟩
  have S3 := S2.push { cls := .type "slice", data := .fields #[.none, Value.int j t', .none] }
  obtain ⟨S4, le4⟩ := S3.newObj { cls := .type "list", data := .seq (slicePick its none (some (j : Int)) none) }
  rw [Heap.size_push] at S4 le4
  refine hQ _ _ n2 _ _ ⟨_, Is.rfl' _, k (h2.objs.size + 1) _ le4 ⟨_, gset_self, _, _, rfl, ?_⟩⟩ ((le.trans le2).trans le4) S4
  rw [pick_upto]; exact hA.take j
section
variable {w : World} {h₀ : Heap} {sa : Addr} {zs : List Int} {t1 t2 : Option Addr}
def absV (z : Int) : Value := .int (if z < 0 then -z else z) 0
end
end Mine

namespace Mine
variable {c : Cx} {m : Loc} {g : View} {n : Led} {Φ : Post} {Ψ : XPost} {F : FPost}
theorem AllIs.ints : ∀ {xs : List Value} {zs : List Int}, IntsAre xs zs → AllIs (zs.map fun z => .int z 0) xs
  | _, _, .nil => .nil
  | _, _, .cons _ t h => .cons ⟨t, rfl⟩ (AllIs.ints h)
theorem entry {w : World} {h₀ : Heap} {L fa sa : Addr} {nm : Str} {sc : Scope} {cd : Value} {body : List Stmt} {xs : List Value} {zs : List Int} {mm : Str → Option Value} {s : Shared} {Q : Flow → Shared → Prop} {E : Value → Shared → Prop}
    (G : G0 w h₀) (F : Fr h₀ L s.heap mm) (hmm : mm "script" = some (.ref sa)) (N : News h₀ L s.heap [(476, tabObj #[]), (443, tabObj #[])]) (hL : h₀.IsList sa xs.toArray) (hI : IntsAre xs zs) (hkind : sc.kind = .function)
    (hnm : ((["script", "deck", "ring", "turn", "deed"] : List Str).all fun x => sc.names.lookup x == some .local && !(x == ("__debug__" : Str))) = true)
    (hlen : zs.length ≤ 63)
    (h : ∀ (c : Cx) (g : View) (sa : Addr) (zs : List Int), zs.length ≤ 63 → G0 c.w c.h₀ → c.sc = sc → c.k = 12 → c.comp = false → (∀ a o, c.h₀.get? a = some o → g a = some o) → LW g sa (zs.map fun z => .int z 0) →
      SX c [(("script" : Str), some (.ref sa)), (("deck" : Str), none), (("ring" : Str), none), (("turn" : Str), none), (("deed" : Str), none)] g [(443, TabP 242 29 none), (476, TabP 276 30 none)] body (Out (fun v g' n' => v = .bool true ∧ ∃ s1 s2, (443, TabP 242 29 s1) ∈ n' ∧ (476, TabP 276 30 s2) ∈ n')) (fun _ _ => False))
    (hQ : ∀ h' tk m', Fr h₀ L h' m' → GrownAt 476 h' → GrownAt 443 h' → Q (.ret (.bool true)) { s with heap := h', toks := tk }) :
    wpAny (model PR w) (callerA.deeper (envOf nm sc L fa cd)) (execs body (envOf nm sc L fa cd)) Q E s := by
  let c : Cx := { w := w, h₀ := h₀, nm := nm, sc := sc, L := L, fn := some fa, fa := L, comp := false, cd := cd, cl := [], A := callerA.deeper (envOf nm sc L fa cd), outer := [], k := 12, g0 := h₀.get?, n0 := [443, 476], h0 := h₀, pin := [] }
  have Lfree : h₀.get? L = none := by
    cases q : h₀.get? L with
    | none => rfl
    | some o => exact absurd (Nat.lt_of_lt_of_le (Heap.lt_size q) F.above) (Nat.lt_irrefl _)
  have n1 := N _ (.head _)
  have n2 := N _ (.tail _ (.head _))
  have hall : ∀ x ∈ (["script", "deck", "ring", "turn", "deed"] : List Str), sc.names.lookup x = some .local ∧ (x == ("__debug__" : Str)) = false := fun x hx => by
    have := List.all_eq_true.mp hnm x hx
    simp only [Bool.and_eq_true, beq_iff_eq, Bool.not_eq_true'] at this
    exact this
  have hsa : LW h₀.get? sa (zs.map fun z => .int z 0) := by
    obtain ⟨o, e, hc, k, hd⟩ := hL
    exact ⟨o, _, k, e, hc, hd, by simpa using AllIs.ints hI⟩
  have S : St c [(("script" : Str), some (.ref sa)), (("deck" : Str), none), (("ring" : Str), none), (("turn" : Str), none), (("deed" : Str), none)] h₀.get? [(443, TabP 242 29 none), (476, TabP 276 30 none)] s.heap :=
    { G := G
      base := fun _ _ e => e
      hA := by rw [Cx.stk_def rfl]; exact Around.frames_deeper rfl
      hdef := fun _ => rfl
      hh := rfl
      hk := hkind
      room := ⟨Nat.le_of_ble_eq_true rfl, Nat.le_of_ble_eq_true rfl⟩
      g0 := fun _ _ e => e
      sits := {
        vw := fun a o e => F.keep a o e
        ld := fun p hp => by
          rcases List.mem_cons.mp hp with rfl | hp
          · exact ⟨_, n2.1, rfl⟩
          · rw [List.mem_singleton.mp hp]; exact ⟨_, n1.1, rfl⟩
        off := fun a ha => by
          rcases List.mem_cons.mp ha with rfl | ha
          · exact n2.2.2
          · rw [List.mem_singleton.mp ha]; exact n1.2.2
        nd := by decide }
      loc := ⟨mm, F.ns, fun x v e => by
        simp only [List.mem_cons, Prod.mk.injEq, Option.some.injEq, reduceCtorEq, and_false, List.not_mem_nil, or_false] at e
        obtain ⟨rfl, rfl⟩ := e
        exact ⟨_, hmm, rfl⟩⟩
      mnd := by show (["script", "deck", "ring", "turn", "deed"] : List Str).Nodup; decide +kernel
      mloc := fun x hx => hall x hx
      Lg := Lfree
      Ln := fun q => by
        rcases List.mem_cons.mp q with q | q
        · exact n2.2.1 q.symm
        · exact n1.2.1 (List.mem_singleton.mp q).symm
      fr := trivial
      fg := fun _ q => nomatch q
      fn := fun _ q => nomatch q
      keep := Keep.of_all F.keep
      new := fun _ _ e => .inl e
      nnew := fun _ q => .inl q
      Lnew := Lfree
      pins := fun _ q => nomatch q }
  refine h c h₀.get? sa zs hlen G rfl rfl rfl (fun _ _ e => e) hsa s Q E S (fun f f' m' g' n' h' tk z i le S' => ?_) fun x m' g' n' h' tk z => z.elim
  have fin : ∀ v : Value, (v = .bool true ∧ ∃ s1 s2, (443, TabP 242 29 s1) ∈ n' ∧ (476, TabP 276 30 s2) ∈ n') → f = .ret v → Q f' { s with heap := h', toks := tk } := fun v z e => by
    subst e
    obtain ⟨rfl, s1, s2, m1, m2⟩ := z
    cases i with | ret i =>
      obtain rfl : _ = Value.bool true := i
      obtain ⟨o1, e1, q1⟩ := S'.sits.ld _ m1
      obtain ⟨o2, e2, q2⟩ := S'.sits.ld _ m2
      obtain ⟨mm', hns, _⟩ := S'.loc
      refine hQ h' tk mm' ⟨hns, fun b o e => (S'.keep.2 b o e (fun q => ?_)).1 (fun q => nomatch q), F.above⟩ ⟨_, by rw [e2]; exact congrArg some q2⟩ ⟨_, by rw [e1]; exact congrArg some q1⟩
      rcases List.mem_cons.mp q with rfl | q
      · rw [n2.2.2] at e; cases e
      · rw [List.mem_singleton.mp q, n1.2.2] at e; cases e
  cases f with
  | ret v => exact fin v z rfl
  | _ => obtain ⟨z, _⟩ := z; cases z
end Mine

namespace Mine
theorem law_holds : PySem.Challenge.rw_sq0008_01.Holds := by
  w_on
  refine holds_law look_ok fun said => ?_
  refine holds_open (q := hd.view_39) (loose := hd.loose) (Xt := hd.Xt) (XP := XL hd.view_39 []) (Yf := (kmHook hd.heap_39 hd.as39 hd.as_eq [476, 443]).obs) (Ya := (kmHook hd.heap_39 hd.as39 hd.as_eq [476, 443]).val) (YP := (kmHook hd.heap_39 hd.as39 hd.as_eq [476, 443]).says) (N := 9000) hd.left_ok (kmHook hd.heap_39 hd.as39 hd.as_eq [476, 443]).of (kmHook hd.heap_39 hd.as39 hd.as_eq [476, 443]).keeps (fun s e => xl_of s (Bool.and_eq_true_iff.mp e).1) XL.keeps (by rfl) (by rfl) (by rfl) (fun s e => recFacts_of (Bool.and_eq_true_iff.mp e).2) (by rfl) said (by decide +kernel) ⟨rfl, rfl, rfl, rfl, rfl, by decide +kernel⟩ ?hw ?hc
  case hw => exact ⟨[WData.list []], by decide +kernel, by decide +kernel⟩
  case hc =>
    clear said
    w_strict k_go0
    rename IntsAre _ _ => hI
    rename (ghostOf _ _).IsList _ _ => hLs
    rename News _ _ _ _ => hN
    rename Fr _ _ _ _ => hF
    rename Top _ _ _ _ _ (ghostOf _ _) => hT
    rename (Frag.In _ (ghostOf _ _)) => hX
    rename CodeHd _ (447, 443).1 _ => hc2
    rename CodeHd _ (480, 476).1 _ => hc1
    rename List Int => zs
    have hl : zs.length ≤ 63 := by omega
    have G : G0 _ _ := ⟨hX, ⟨_, _, _, _, _, hT⟩, hc1, hc2⟩
    refine entry (G := G) (F := hF) (hmm := by rfl) (N := hN) (hL := hLs) (hI := hI) (hlen := hl) (hkind := rfl) (hnm := by decide +kernel) ?_ ?_
    · intro c g sa zs hl G hsc hk' hcomp hb hS
      dsimp only at hsc ⊢
      walk_at "M.s"
      refine EX.lst ?_
      walk_at "M.s"
      refine EX.comp [] [("cell", none)] ?_ (fun _ h => nomatch h) hsc hcomp (by kernel_rfl) (by kernel_rfl) (by kernel_rfl) rfl (by kernel_rfl) rfl (by decide +kernel) (by kernel_rfl)
      refine EX.sliceToW ?_
      walk_at "M.go"
      refine ⟨sa, _, 0, 63, rfl, hS, rfl, by simp; omega, fun r1 g1 le1 hr1 => ?_⟩
      rw [← List.map_take, List.take_of_length_le hl] at hr1
      walk_at "M.go"
      refine Iter.lst (.inl hr1) fun it => ?_
      refine ⟨fun i ys g n => i ≤ zs.length ∧ Le g1 g ∧ ys = (zs.take i).map absV ∧ n = [(443, TabP 242 29 none), (476, TabP 276 30 none)], ⟨Nat.zero_le _, Le.rfl' _, by simp, rfl⟩, ?_, ?_, ?_⟩
      · rintro i ys g n ⟨hi, le, rfl, _⟩
        exact ⟨.inl (hr1.le le), by simp; omega⟩
      · rintro cc D2 hw2 hh2 hsc2 hk2 h02 hcomp2 hcl2 i ys u g8 g9 n1 le8 hi ⟨_, le18, rfl, rfl⟩ le9 hu
        have hi : i < zs.length := by simpa using hi
        rw [List.getElem?_map, List.getElem?_eq_getElem hi] at hu
        cases hu
        refine AG.name (by walk_at "M.put") ?_
        refine TS.nil ?_
        refine ⟨fun _ => ?_, fun h => by cases h⟩
        walk_at "M.go"
        refine CA.abs ?_
        refine ⟨_, rfl, by walk_at "M.om", le18.trans le9, ?_, rfl⟩
        rw [List.take_add_one, List.getElem?_eq_getElem hi, List.map_append]
        rfl
      · rintro D2 ys g8 g9 n1 le8 ⟨_, le18, rfl, rfl⟩ le9 hD0
        have hlen2 : (zs.map fun z => Value.int z 0).length = zs.length := by simp
        rw [hlen2, List.take_length]
        walk_at "M.go"
        intro dk hdk
        walk_at "M.s"
        refine SX.perm (List.Perm.swap _ _ _) ?_
        refine SX.frzL hD0 fun g10 le10 hlst => ?_
        have hD : Deck g10 D2 (zs.map absV) := ⟨hlst, fun i u e => by
          rw [List.getElem?_map] at e
          cases h : zs[i]? with
          | none => rw [h] at e; cases e
          | some z =>
            rw [h] at e
            cases e
            refine ⟨z.natAbs, ?_⟩
            unfold absV
            congr 1
            split <;> omega, by rw [List.length_map]; exact hl⟩
        have le010 : Le g g10 := le1.trans (le18.trans (le9.trans le10))
        walk_at "M.go"
        refine CA.fnP (pre := []) (nc := [DkL dk D2 0]) (post := [(443, TabP 242 29 none), (476, TabP 276 30 none)]) (law_ring_fn hD (by walk_at "M.om")) (by walk_at "M.om") (fun v g11 n11 le11 fr z => ?_) (fun _ _ _ z => z.elim)
        obtain ⟨rt, pl, tl, P, T, τ, a, q, k', rfl, rfl, hk', hR⟩ := z
        have hD11 := hD.le le11
        walk_at "M.ds"
        walk_at "M.go"
        refine CA.fnP (pre := []) (nc := [DkL dk D2 k']) (post := [(443, TabP 242 29 none), (476, TabP 276 30 none)]) (by_place_fn hD11 hR (by walk_at "M.om")) (by walk_at "M.om") (fun v g12 n12 le12 fr z => ?_) (fun _ _ _ z => z.elim)
        obtain ⟨rfl, rfl⟩ := z
        have hD12 := hD11.le le12
        have hR12 := hR.le le12
        walk_at "M.ds"
        walk_at "M.go"
        refine CA.draw 5 rfl hD12 .head (by walk_at "M.om") (by walk_at "M.om") (by walk_at "M.om") (by walk_at "M.om") fun z g13 hz le13 => ?_
        have hR13 := hR12.le le13
        have hD13 := hD12.le le13
        walk_at "M.go"
        rename_i r g14 le14 hr
        have hR14 := hR13.le le14
        have hD14 := hD13.le le14
        have hr : Rng g14 r 0 ((2 + z : Nat) : Int) 1 := by rw [show ((2 + z : Nat) : Int) = 2 + (z : Int) from by push_cast; rfl]; exact hr
        have le014 := le010.trans (le11.trans (le12.trans (le13.trans le14)))
        refine Iter.rng (k := 1) (len := 2 + z) hr (small_up (by walk_at "M.om")) range_up fun it2 => ?_
        refine ⟨fun i m1 g1 n1 => i ≤ 2 + z ∧ Le g14 g1 ∧ ∃ (kd : Nat) (s1 s2 : Option Addr) (tn de : Option Value), m1 = [(("script" : Str), some (.ref sa)), (("deck" : Str), some (.ref dk)), (("ring" : Str), some (.ref rt)), (("turn" : Str), tn), (("deed" : Str), de)] ∧ n1 = [DkL dk D2 kd, (443, TabP 242 29 s1), (476, TabP 276 30 s2)] ∧ kd ≤ k' + 2 + 1 + 7 * i ∧ (∀ c', s1 = some c' → CodeG g1 c' qF) ∧ (∀ c', s2 = some c' → CodeG g1 c' qW), ⟨by walk_at "M.om", Le.rfl' _, k' + 2 + 1, none, none, _, _, rfl, rfl, by walk_at "M.om", (fun c' e => nomatch e), (fun c' e => nomatch e)⟩, fun _ _ _ _ _ => trivial, ?_, ?_⟩
        · rintro i u m1 g15 g16 n1 le15 hi ⟨_, le1415, kd, s1, s2, tn, de, rfl, rfl, hkd, hs1, hs2⟩ le16 rfl
          refine AG.name (by walk_at "M.put") ?_
          have hR16 := hR14.le (le1415.trans le16)
          have hD16 := hD14.le (le1415.trans le16)
          walk_at "M.go"
          intro t17 g17 le17 ht17
          walk_at "M.go"
          refine EX.callF ?_
          walk_at "M.go"
          have hD17 := hD16.le le17
          have hb17 : ∀ a o, c.h₀.get? a = some o → g17 a = some o := fun a o e => ((le014.trans le1415).trans (le16.trans le17)) _ _ (hb a o e)
          refine CA.draw 7 rfl hD17 (by walk_at "M.swap") (by walk_at "M.om") (by walk_at "M.om") (by walk_at "M.om") (by walk_at "M.om") fun z7 g18 hz7 le18 => ?_
          have hb18 : ∀ a o, c.h₀.get? a = some o → g18 a = some o := fun a o e => le18 _ _ (hb17 a o e)
          obtain ⟨f, hf, hff⟩ : ∃ f : Addr, [Value.ref 676, Value.ref 681, Value.ref 686, Value.ref 686, Value.ref 693, Value.ref 693, Value.ref 698][z7]? = some (.ref f) ∧ (f = 676 ∨ f = 681 ∨ f = 686 ∨ f = 693 ∨ f = 698) := by
            have : z7 = 0 ∨ z7 = 1 ∨ z7 = 2 ∨ z7 = 3 ∨ z7 = 4 ∨ z7 = 5 ∨ z7 = 6 := lt7 hz7
            rcases this with rfl | rfl | rfl | rfl | rfl | rfl | rfl
            · exact ⟨676, rfl, .inl rfl⟩
            · exact ⟨681, rfl, .inr (.inl rfl)⟩
            · exact ⟨686, rfl, .inr (.inr (.inl rfl))⟩
            · exact ⟨686, rfl, .inr (.inr (.inl rfl))⟩
            · exact ⟨693, rfl, .inr (.inr (.inr (.inl rfl)))⟩
            · exact ⟨693, rfl, .inr (.inr (.inr (.inl rfl)))⟩
            · exact ⟨698, rfl, .inr (.inr (.inr (.inr rfl)))⟩
          have hFV : FV g18 f := by
            rcases hff with rfl | rfl | rfl | rfl | rfl
            · exact fv_is G hb18 (f := 676) (by kernel_rfl)
            · exact fv_is G hb18 (f := 681) (by kernel_rfl)
            · exact fv_is G hb18 (f := 686) (by kernel_rfl)
            · exact fv_is G hb18 (f := 693) (by kernel_rfl)
            · exact fv_is G hb18 (f := 698) (by kernel_rfl)
          refine SB.lst (k := (z7 : Int)) (.inl (ht17.le le18)) (by walk_at "M.om") (by simp; omega) (u := .ref f) (by rw [Int.toNat_natCast]; exact hf) ?_
          walk_at "M.go"
          have hR18 := (hR16.le le17).le le18
          have le1618 := le16.trans (le17.trans le18)
          refine deed_ca (pre := [_]) hff (hD17.le le18) hR18 (by walk_at "M.om") (fun c' e => (hs1 c' e).le le1618) (fun c' e => (hs2 c' e).le le1618) (by walk_at "M.om") fun g19 kd' s1' s2' le19 hkd' hs1' hs2' => ?_
          have hR19 := hR18.le le19
          walk_at "M.ds"
          walk_at "M.go"
          refine CA.fte (stays_fn hR19) (by walk_at "M.om") fun g20 le20 => ?_
          walk_at "M.go"
          exact ⟨_, rfl, by walk_at "M.om", le1415.trans (le1618.trans (le19.trans le20)), kd', s1', s2', _, _, rfl, rfl, by walk_at "M.om", fun c' e => (hs1' c' e).le le20, fun c' e => (hs2' c' e).le le20⟩
        · rintro m1 g15 g16 n1 le15 ⟨_, le1415, kd, s1, s2, tn, de, rfl, rfl, hkd, hs1, hs2⟩ le16
          have hR16 := hR14.le (le1415.trans le16)
          walk_at "M.go"
          refine CA.fte (stays_fn hR16) (by walk_at "M.om") fun g17 le17 => ?_
          walk_at "M.go"
          exact ⟨rfl, s1, s2, .tail _ (.head _), .tail _ (.tail _ (.head _))⟩
    · intro h' tk m' F' g1 g2
      refine ⟨?_, g1, g2, trivial⟩
      kc_close
end Mine

theorem PySem.Challenge.cw_sq0008_01_holds : PySem.Challenge.rw_sq0008_01.Holds := by
  exact Mine.law_holds
