import PyProof.Rows.All
import Wide.All
import OpenK.AllK
import Wide.FinOn
import PySem.Challenge.RW_np0031_01
open PySem PySem.W PySem.Calls PyProof.Rows
set_option Elab.async false
set_option maxRecDepth 100000
set_option rowWalk.seconds 0
set_option compiler.extract_closed false
namespace Mine
def hpPos : Pos := { line := 0, col := 0, endLine := 0, endCol := 0 }
def hpO11 : Obj := { cls := Value.type "tuple", data := (Data.seq (Array.mk [])) }
def hpO12 : Obj := { cls := Value.none, data := Data.fields (#[]) }
def hpO13 : Obj := ⟨.type "code", none, .fields (Array.mk [Value.str (Str.ofString "<module>") 182, Value.str (Str.ofString "<module>") 183,
          Value.str (Str.ofString "/claim/cut.py") 184, Value.int 1 0, Value.int 0 0, Value.int 0 0, Value.int 0 0,
          Value.int 0 0, Value.ref 11, Value.bool false, Value.int 181 0, Value.ref 12, Value.none, Value.none,
          Value.none, Value.none, Value.int 185 0, Value.int 1 0, Value.str (Str.ofString "/claim/cut.py") 186]), Array.mk []⟩
def hpO14 : Obj := { cls := Value.type "frame", slots :=
      (#[some (Value.ref 13), some (Value.ref 3), some (Value.ref 3), none,
        some (Value.str (Str.ofString "__main__") 164), none, some (Value.ref 0)]) }
def hpTree (os : List Obj) : Nat → Nat → Nat → BT
  | 0, _, _ => .nil
  | f + 1, a, b => match os[b]? with
    | some o => .node o (hpTree os f (2 * a) (a + b)) (hpTree os f (2 * a) (2 * a + b))
    | none => .nil
noncomputable def hpObjs (P : Params) : List Obj := (boot_heap P).objs.toList ++ [hpO11, hpO12, hpO13, hpO14]
def hpEnv : Env := { scope := PySem.Challenge.pw_np0031_01.main.scope, locals := mainNs, globals := mainNs, cells := [], code := .ref 13, frame := some 14 }
def hpBody : List Stmt := behindTheImports PySem.Challenge.pw_np0031_01
noncomputable def hpStart (w : World) (os : OsState) : SharedT := { tree := hpTree (hpObjs w.params) 10 1 0, n := 15, life := {}, gens := (#[]), drawn := {}, toks := 187, os := os }
def view_ : Program := PySem.W.view PySem.Challenge.pw_np0031_01 [1,2,3,4,5,6,7,8,10,11,12,13,14,15,16,17,19,20,21,22,24,25,26,27,29,31,32,33,34,35,36]
def hpAt (b : List Stmt) (i : Nat) : Stmt := b.getD i (.Pass ⟨0, 0, 0, 0⟩)
def hpIn : Stmt → List Stmt
  | .ClassDef _ _ _ b _ _ _ _ _ _ _ => b
  | _ => []
def hpAr : Stmt → Arguments
  | .FunctionDef _ a _ _ _ _ _ _ _ _ => a
  | _ => default
def hpBd : Stmt → List Stmt
  | .FunctionDef _ _ b _ _ _ _ _ _ _ => b
  | _ => []
def hpSc : Stmt → Scope
  | .FunctionDef _ _ _ _ _ _ sc _ _ _ => sc
  | _ => default
noncomputable def hpO15 : Params → Obj := fun _ => Obj.mk (Value.type "tuple") none (Data.seq #[]) #[]
noncomputable def hpO16 : Params → Obj := fun _ => Obj.mk Value.none none (Data.fields #[]) #[]
noncomputable def hpO17 : Params → Obj := fun _ => Obj.mk (Value.type "tuple") none (Data.seq #[Value.str (Str.ofString "view") 198, Value.str (Str.ofString "place") 199, Value.str (Str.ofString "at") 200]) #[]
noncomputable def hpO18 : Params → Obj := fun _ => Obj.mk (Value.type "tuple") none (Data.seq #[]) #[]
noncomputable def hpO19 : Params → Obj := fun _ =>
  Obj.mk Value.none none
    (Data.func
      (FuncData.mk (Str.ofString "line_start") (Str.ofString "line_start") (hpAr (hpAt hpBody 4)) (FuncBody.stmts (hpBd (hpAt hpBody 4)))
        (hpSc (hpAt hpBody 5)) 0 [] Value.none Value.none Value.none Value.none none Value.none Value.none 0))
    #[]
noncomputable def hpO20 : Params → Obj := fun _ =>
  Obj.mk (Value.type "code") none
    (Data.fields
      #[Value.str (Str.ofString "line_start") 195, Value.str (Str.ofString "line_start") 196, Value.str (Str.ofString "/claim/cut.py") 197, Value.int 5 0, Value.int 2 0, Value.int 0 0, Value.int 0 0,
        Value.int 3 0, Value.ref 15, Value.bool true, Value.int 181 0, Value.ref 16, Value.none, Value.ref 17, Value.ref 18, Value.ref 19, Value.int 201 0, Value.int 5 0,
        Value.str (Str.ofString "/claim/cut.py") 202])
    #[]
noncomputable def hpO21 : Params → Obj := fun _ =>
  Obj.mk (Value.type "function") none
    (Data.func
      (FuncData.mk (Str.ofString "line_start") (Str.ofString "line_start") (hpAr (hpAt hpBody 4)) (FuncBody.stmts (hpBd (hpAt hpBody 4)))
        (hpSc (hpAt hpBody 5)) 3 [] Value.none Value.none Value.none (Value.str (Str.ofString "emacs.lines") 187) none (Value.ref 20) Value.none 0))
    #[]
noncomputable def hpO22 : Params → Obj := fun _ => Obj.mk (Value.type "tuple") none (Data.seq #[]) #[]
noncomputable def hpO23 : Params → Obj := fun _ => Obj.mk Value.none none (Data.fields #[]) #[]
noncomputable def hpO24 : Params → Obj := fun _ => Obj.mk (Value.type "tuple") none (Data.seq #[Value.str (Str.ofString "view") 207, Value.str (Str.ofString "place") 208, Value.str (Str.ofString "at") 209]) #[]
noncomputable def hpO25 : Params → Obj := fun _ => Obj.mk (Value.type "tuple") none (Data.seq #[]) #[]
noncomputable def hpO26 : Params → Obj := fun _ =>
  Obj.mk Value.none none
    (Data.func
      (FuncData.mk (Str.ofString "line_end") (Str.ofString "line_end") (hpAr (hpAt hpBody 5)) (FuncBody.stmts (hpBd (hpAt hpBody 5))) (hpSc (hpAt hpBody 5)) 0
        [] Value.none Value.none Value.none Value.none none Value.none Value.none 0))
    #[]
noncomputable def hpO27 : Params → Obj := fun _ =>
  Obj.mk (Value.type "code") none
    (Data.fields
      #[Value.str (Str.ofString "line_end") 204, Value.str (Str.ofString "line_end") 205, Value.str (Str.ofString "/claim/cut.py") 206, Value.int 10 0, Value.int 2 0, Value.int 0 0, Value.int 0 0,
        Value.int 3 0, Value.ref 22, Value.bool true, Value.int 181 0, Value.ref 23, Value.none, Value.ref 24, Value.ref 25, Value.ref 26, Value.int 210 0, Value.int 10 0,
        Value.str (Str.ofString "/claim/cut.py") 211])
    #[]
noncomputable def hpO28 : Params → Obj := fun _ =>
  Obj.mk (Value.type "function") none
    (Data.func
      (FuncData.mk (Str.ofString "line_end") (Str.ofString "line_end") (hpAr (hpAt hpBody 5)) (FuncBody.stmts (hpBd (hpAt hpBody 5))) (hpSc (hpAt hpBody 5)) 3
        [] Value.none Value.none Value.none (Value.str (Str.ofString "emacs.lines") 187) none (Value.ref 27) Value.none 0))
    #[]
noncomputable def hpO29 : Params → Obj := fun _ => Obj.mk (Value.type "tuple") none (Data.seq #[]) #[]
noncomputable def hpO30 : Params → Obj := fun _ => Obj.mk Value.none none (Data.fields #[]) #[]
noncomputable def hpO31 : Params → Obj := fun _ => Obj.mk (Value.type "tuple") none (Data.seq #[Value.str (Str.ofString "view") 216, Value.str (Str.ofString "place") 217, Value.str (Str.ofString "at") 218]) #[]
noncomputable def hpO32 : Params → Obj := fun _ => Obj.mk (Value.type "tuple") none (Data.seq #[]) #[]
noncomputable def hpO33 : Params → Obj := fun _ =>
  Obj.mk Value.none none
    (Data.func
      (FuncData.mk (Str.ofString "next_start") (Str.ofString "next_start") (hpAr (hpAt hpBody 6)) (FuncBody.stmts (hpBd (hpAt hpBody 6)))
        (hpSc (hpAt hpBody 6)) 0 [] Value.none Value.none Value.none Value.none none Value.none Value.none 0))
    #[]
noncomputable def hpO34 : Params → Obj := fun _ =>
  Obj.mk (Value.type "code") none
    (Data.fields
      #[Value.str (Str.ofString "next_start") 213, Value.str (Str.ofString "next_start") 214, Value.str (Str.ofString "/claim/cut.py") 215, Value.int 15 0, Value.int 2 0, Value.int 0 0, Value.int 0 0,
        Value.int 3 0, Value.ref 29, Value.bool true, Value.int 181 0, Value.ref 30, Value.none, Value.ref 31, Value.ref 32, Value.ref 33, Value.int 219 0, Value.int 15 0,
        Value.str (Str.ofString "/claim/cut.py") 220])
    #[]
noncomputable def hpO35 : Params → Obj := fun _ =>
  Obj.mk (Value.type "function") none
    (Data.func
      (FuncData.mk (Str.ofString "next_start") (Str.ofString "next_start") (hpAr (hpAt hpBody 6)) (FuncBody.stmts (hpBd (hpAt hpBody 6)))
        (hpSc (hpAt hpBody 6)) 3 [] Value.none Value.none Value.none (Value.str (Str.ofString "emacs.lines") 187) none (Value.ref 34) Value.none 0))
    #[]
noncomputable def hpO36 : Params → Obj := fun _ => Obj.mk (Value.type "tuple") none (Data.seq #[]) #[]
noncomputable def hpO37 : Params → Obj := fun _ => Obj.mk Value.none none (Data.fields #[]) #[]
noncomputable def hpO38 : Params → Obj := fun _ =>
  Obj.mk (Value.type "tuple") none
    (Data.seq
      #[Value.str (Str.ofString "view") 225, Value.str (Str.ofString "place") 226, Value.str (Str.ofString "many") 227, Value.str (Str.ofString "at") 228, Value.str (Str.ofString "following") 229])
    #[]
noncomputable def hpO39 : Params → Obj := fun _ => Obj.mk (Value.type "tuple") none (Data.seq #[]) #[]
noncomputable def hpO40 : Params → Obj := fun _ =>
  Obj.mk Value.none none
    (Data.func
      (FuncData.mk (Str.ofString "lines_target") (Str.ofString "lines_target") (hpAr (hpAt hpBody 7)) (FuncBody.stmts (hpBd (hpAt hpBody 7)))
        (hpSc (hpAt hpBody 7)) 0 [] Value.none Value.none Value.none Value.none none Value.none Value.none 0))
    #[]
noncomputable def hpO41 : Params → Obj := fun _ =>
  Obj.mk (Value.type "code") none
    (Data.fields
      #[Value.str (Str.ofString "lines_target") 222, Value.str (Str.ofString "lines_target") 223, Value.str (Str.ofString "/claim/cut.py") 224, Value.int 18 0, Value.int 3 0, Value.int 0 0,
        Value.int 0 0, Value.int 3 0, Value.ref 36, Value.bool true, Value.int 181 0, Value.ref 37, Value.none, Value.ref 38, Value.ref 39, Value.ref 40, Value.int 230 0, Value.int 18 0,
        Value.str (Str.ofString "/claim/cut.py") 231])
    #[]
noncomputable def hpO42 : Params → Obj := fun _ =>
  Obj.mk (Value.type "function") none
    (Data.func
      (FuncData.mk (Str.ofString "lines_target") (Str.ofString "lines_target") (hpAr (hpAt hpBody 7)) (FuncBody.stmts (hpBd (hpAt hpBody 7)))
        (hpSc (hpAt hpBody 7)) 3 [] Value.none Value.none Value.none (Value.str (Str.ofString "emacs.lines") 187) none (Value.ref 41) Value.none 0))
    #[]
noncomputable def hpO43 : Params → Obj := fun _ => Obj.mk (Value.type "tuple") none (Data.seq #[]) #[]
noncomputable def hpO44 : Params → Obj := fun _ => Obj.mk Value.none none (Data.fields #[]) #[]
noncomputable def hpO45 : Params → Obj := fun _ => Obj.mk (Value.type "tuple") none (Data.seq #[Value.str (Str.ofString "view") 236, Value.str (Str.ofString "place") 237]) #[]
noncomputable def hpO46 : Params → Obj := fun _ => Obj.mk (Value.type "tuple") none (Data.seq #[]) #[]
noncomputable def hpO47 : Params → Obj := fun _ =>
  Obj.mk Value.none none
    (Data.func
      (FuncData.mk (Str.ofString "is_line_end") (Str.ofString "is_line_end") (hpAr (hpAt hpBody 8)) (FuncBody.stmts (hpBd (hpAt hpBody 8)))
        (hpSc (hpAt hpBody 8)) 0 [] Value.none Value.none Value.none Value.none none Value.none Value.none 0))
    #[]
noncomputable def hpO48 : Params → Obj := fun _ =>
  Obj.mk (Value.type "code") none
    (Data.fields
      #[Value.str (Str.ofString "is_line_end") 233, Value.str (Str.ofString "is_line_end") 234, Value.str (Str.ofString "/claim/cut.py") 235, Value.int 33 0, Value.int 2 0, Value.int 0 0,
        Value.int 0 0, Value.int 3 0, Value.ref 43, Value.bool true, Value.int 181 0, Value.ref 44, Value.none, Value.ref 45, Value.ref 46, Value.ref 47, Value.int 238 0, Value.int 33 0,
        Value.str (Str.ofString "/claim/cut.py") 239])
    #[]
noncomputable def hpO49 : Params → Obj := fun _ =>
  Obj.mk (Value.type "function") none
    (Data.func
      (FuncData.mk (Str.ofString "is_line_end") (Str.ofString "is_line_end") (hpAr (hpAt hpBody 8)) (FuncBody.stmts (hpBd (hpAt hpBody 8)))
        (hpSc (hpAt hpBody 8)) 3 [] Value.none Value.none Value.none (Value.str (Str.ofString "emacs.lines") 187) none (Value.ref 48) Value.none 0))
    #[]
noncomputable def hpO50 : Params → Obj := fun _ => Obj.mk (Value.type "tuple") none (Data.seq #[]) #[]
noncomputable def hpO51 : Params → Obj := fun _ => Obj.mk Value.none none (Data.fields #[]) #[]
noncomputable def hpO52 : Params → Obj := fun _ => Obj.mk (Value.type "tuple") none (Data.seq #[Value.str (Str.ofString "view") 250, Value.str (Str.ofString "place") 251]) #[]
noncomputable def hpO53 : Params → Obj := fun _ => Obj.mk (Value.type "tuple") none (Data.seq #[]) #[]
noncomputable def hpO54 : Params → Obj := fun _ =>
  Obj.mk Value.none none
    (Data.func
      (FuncData.mk (Str.ofString "clamped") (Str.ofString "clamped") (hpAr (hpAt hpBody 12)) (FuncBody.stmts (hpBd (hpAt hpBody 12))) (hpSc (hpAt hpBody 12))
        0 [] Value.none Value.none Value.none Value.none none Value.none Value.none 0))
    #[]
noncomputable def hpO55 : Params → Obj := fun _ =>
  Obj.mk (Value.type "code") none
    (Data.fields
      #[Value.str (Str.ofString "clamped") 247, Value.str (Str.ofString "clamped") 248, Value.str (Str.ofString "/claim/cut.py") 249, Value.int 38 0, Value.int 2 0, Value.int 0 0, Value.int 0 0,
        Value.int 3 0, Value.ref 50, Value.bool true, Value.int 181 0, Value.ref 51, Value.none, Value.ref 52, Value.ref 53, Value.ref 54, Value.int 252 0, Value.int 38 0,
        Value.str (Str.ofString "/claim/cut.py") 253])
    #[]
noncomputable def hpO56 : Params → Obj := fun _ =>
  Obj.mk (Value.type "function") none
    (Data.func
      (FuncData.mk (Str.ofString "clamped") (Str.ofString "clamped") (hpAr (hpAt hpBody 12)) (FuncBody.stmts (hpBd (hpAt hpBody 12))) (hpSc (hpAt hpBody 12))
        3 [] Value.none Value.none Value.none (Value.str (Str.ofString "emacs.charmotion") 241) none (Value.ref 55) Value.none 0))
    #[]
noncomputable def hpO57 : Params → Obj := fun _ => Obj.mk (Value.type "tuple") none (Data.seq #[]) #[]
noncomputable def hpO58 : Params → Obj := fun _ => Obj.mk Value.none none (Data.fields #[]) #[]
noncomputable def hpO59 : Params → Obj := fun _ =>
  Obj.mk (Value.type "tuple") none
    (Data.seq
      #[Value.str (Str.ofString "view") 258, Value.str (Str.ofString "place") 259, Value.str (Str.ofString "many") 260, Value.str (Str.ofString "wanted") 261, Value.str (Str.ofString "at") 262])
    #[]
noncomputable def hpO60 : Params → Obj := fun _ => Obj.mk (Value.type "tuple") none (Data.seq #[]) #[]
noncomputable def hpO61 : Params → Obj := fun _ =>
  Obj.mk Value.none none
    (Data.func
      (FuncData.mk (Str.ofString "chars_target") (Str.ofString "chars_target") (hpAr (hpAt hpBody 13)) (FuncBody.stmts (hpBd (hpAt hpBody 13)))
        (hpSc (hpAt hpBody 13)) 0 [] Value.none Value.none Value.none Value.none none Value.none Value.none 0))
    #[]
noncomputable def hpO62 : Params → Obj := fun _ =>
  Obj.mk (Value.type "code") none
    (Data.fields
      #[Value.str (Str.ofString "chars_target") 255, Value.str (Str.ofString "chars_target") 256, Value.str (Str.ofString "/claim/cut.py") 257, Value.int 40 0, Value.int 3 0, Value.int 0 0,
        Value.int 0 0, Value.int 3 0, Value.ref 57, Value.bool true, Value.int 181 0, Value.ref 58, Value.none, Value.ref 59, Value.ref 60, Value.ref 61, Value.int 263 0, Value.int 40 0,
        Value.str (Str.ofString "/claim/cut.py") 264])
    #[]
noncomputable def hpO63 : Params → Obj := fun _ =>
  Obj.mk (Value.type "function") none
    (Data.func
      (FuncData.mk (Str.ofString "chars_target") (Str.ofString "chars_target") (hpAr (hpAt hpBody 13)) (FuncBody.stmts (hpBd (hpAt hpBody 13)))
        (hpSc (hpAt hpBody 13)) 3 [] Value.none Value.none Value.none (Value.str (Str.ofString "emacs.charmotion") 241) none (Value.ref 62) Value.none 0))
    #[]
noncomputable def hpO64 : Params → Obj := fun _ => Obj.mk (Value.type "tuple") none (Data.seq #[]) #[]
noncomputable def hpO65 : Params → Obj := fun _ => Obj.mk Value.none none (Data.fields #[]) #[]
noncomputable def hpO66 : Params → Obj := fun _ => Obj.mk (Value.type "tuple") none (Data.seq #[Value.str (Str.ofString "view") 269, Value.str (Str.ofString "tenths") 270, Value.str (Str.ofString "size") 271]) #[]
noncomputable def hpO67 : Params → Obj := fun _ => Obj.mk (Value.type "tuple") none (Data.seq #[]) #[]
noncomputable def hpO68 : Params → Obj := fun _ =>
  Obj.mk Value.none none
    (Data.func
      (FuncData.mk (Str.ofString "tenths_of") (Str.ofString "tenths_of") (hpAr (hpAt hpBody 14)) (FuncBody.stmts (hpBd (hpAt hpBody 14)))
        (hpSc (hpAt hpBody 14)) 0 [] Value.none Value.none Value.none Value.none none Value.none Value.none 0))
    #[]
noncomputable def hpO69 : Params → Obj := fun _ =>
  Obj.mk (Value.type "code") none
    (Data.fields
      #[Value.str (Str.ofString "tenths_of") 266, Value.str (Str.ofString "tenths_of") 267, Value.str (Str.ofString "/claim/cut.py") 268, Value.int 46 0, Value.int 2 0, Value.int 0 0, Value.int 0 0,
        Value.int 3 0, Value.ref 64, Value.bool true, Value.int 181 0, Value.ref 65, Value.none, Value.ref 66, Value.ref 67, Value.ref 68, Value.int 272 0, Value.int 46 0,
        Value.str (Str.ofString "/claim/cut.py") 273])
    #[]
noncomputable def hpO70 : Params → Obj := fun _ =>
  Obj.mk (Value.type "function") none
    (Data.func
      (FuncData.mk (Str.ofString "tenths_of") (Str.ofString "tenths_of") (hpAr (hpAt hpBody 14)) (FuncBody.stmts (hpBd (hpAt hpBody 14)))
        (hpSc (hpAt hpBody 14)) 3 [] Value.none Value.none Value.none (Value.str (Str.ofString "emacs.charmotion") 241) none (Value.ref 69) Value.none 0))
    #[]
noncomputable def hpO71 : Params → Obj := fun _ => Obj.mk (Value.type "tuple") none (Data.seq #[]) #[]
noncomputable def hpO72 : Params → Obj := fun _ => Obj.mk Value.none none (Data.fields #[]) #[]
noncomputable def hpO73 : Params → Obj := fun _ =>
  Obj.mk (Value.type "tuple") none (Data.seq #[Value.str (Str.ofString "view") 278, Value.str (Str.ofString "tenths") 279, Value.str (Str.ofString "size") 280, Value.str (Str.ofString "more") 281])
    #[]
noncomputable def hpO74 : Params → Obj := fun _ => Obj.mk (Value.type "tuple") none (Data.seq #[]) #[]
noncomputable def hpO75 : Params → Obj := fun _ =>
  Obj.mk Value.none none
    (Data.func
      (FuncData.mk (Str.ofString "begin_target") (Str.ofString "begin_target") (hpAr (hpAt hpBody 15)) (FuncBody.stmts (hpBd (hpAt hpBody 15)))
        (hpSc (hpAt hpBody 15)) 0 [] Value.none Value.none Value.none Value.none none Value.none Value.none 0))
    #[]
noncomputable def hpO76 : Params → Obj := fun _ =>
  Obj.mk (Value.type "code") none
    (Data.fields
      #[Value.str (Str.ofString "begin_target") 275, Value.str (Str.ofString "begin_target") 276, Value.str (Str.ofString "/claim/cut.py") 277, Value.int 49 0, Value.int 2 0, Value.int 0 0,
        Value.int 0 0, Value.int 3 0, Value.ref 71, Value.bool true, Value.int 181 0, Value.ref 72, Value.none, Value.ref 73, Value.ref 74, Value.ref 75, Value.int 282 0, Value.int 49 0,
        Value.str (Str.ofString "/claim/cut.py") 283])
    #[]
noncomputable def hpO77 : Params → Obj := fun _ =>
  Obj.mk (Value.type "function") none
    (Data.func
      (FuncData.mk (Str.ofString "begin_target") (Str.ofString "begin_target") (hpAr (hpAt hpBody 15)) (FuncBody.stmts (hpBd (hpAt hpBody 15)))
        (hpSc (hpAt hpBody 15)) 3 [] Value.none Value.none Value.none (Value.str (Str.ofString "emacs.charmotion") 241) none (Value.ref 76) Value.none 0))
    #[]
noncomputable def hpO78 : Params → Obj := fun _ => Obj.mk (Value.type "tuple") none (Data.seq #[]) #[]
noncomputable def hpO79 : Params → Obj := fun _ => Obj.mk Value.none none (Data.fields #[]) #[]
noncomputable def hpO80 : Params → Obj := fun _ => Obj.mk (Value.type "tuple") none (Data.seq #[Value.str (Str.ofString "view") 288, Value.str (Str.ofString "tenths") 289]) #[]
noncomputable def hpO81 : Params → Obj := fun _ => Obj.mk (Value.type "tuple") none (Data.seq #[]) #[]
noncomputable def hpO82 : Params → Obj := fun _ =>
  Obj.mk Value.none none
    (Data.func
      (FuncData.mk (Str.ofString "end_target") (Str.ofString "end_target") (hpAr (hpAt hpBody 16)) (FuncBody.stmts (hpBd (hpAt hpBody 16)))
        (hpSc (hpAt hpBody 16)) 0 [] Value.none Value.none Value.none Value.none none Value.none Value.none 0))
    #[]
noncomputable def hpO83 : Params → Obj := fun _ =>
  Obj.mk (Value.type "code") none
    (Data.fields
      #[Value.str (Str.ofString "end_target") 285, Value.str (Str.ofString "end_target") 286, Value.str (Str.ofString "/claim/cut.py") 287, Value.int 55 0, Value.int 2 0, Value.int 0 0, Value.int 0 0,
        Value.int 3 0, Value.ref 78, Value.bool true, Value.int 181 0, Value.ref 79, Value.none, Value.ref 80, Value.ref 81, Value.ref 82, Value.int 290 0, Value.int 55 0,
        Value.str (Str.ofString "/claim/cut.py") 291])
    #[]
noncomputable def hpO84 : Params → Obj := fun _ =>
  Obj.mk (Value.type "function") none
    (Data.func
      (FuncData.mk (Str.ofString "end_target") (Str.ofString "end_target") (hpAr (hpAt hpBody 16)) (FuncBody.stmts (hpBd (hpAt hpBody 16)))
        (hpSc (hpAt hpBody 16)) 3 [] Value.none Value.none Value.none (Value.str (Str.ofString "emacs.charmotion") 241) none (Value.ref 83) Value.none 0))
    #[]
noncomputable def hpO85 : Params → Obj := fun _ => Obj.mk (Value.type "tuple") none (Data.seq #[]) #[]
noncomputable def hpO86 : Params → Obj := fun _ => Obj.mk Value.none none (Data.fields #[]) #[]
noncomputable def hpO87 : Params → Obj := fun _ => Obj.mk (Value.type "tuple") none (Data.seq #[Value.str (Str.ofString "view") 296, Value.str (Str.ofString "number") 297]) #[]
noncomputable def hpO88 : Params → Obj := fun _ => Obj.mk (Value.type "tuple") none (Data.seq #[]) #[]
noncomputable def hpO89 : Params → Obj := fun _ =>
  Obj.mk Value.none none
    (Data.func
      (FuncData.mk (Str.ofString "line_number_target") (Str.ofString "line_number_target") (hpAr (hpAt hpBody 17)) (FuncBody.stmts (hpBd (hpAt hpBody 17)))
        (hpSc (hpAt hpBody 17)) 0 [] Value.none Value.none Value.none Value.none none Value.none Value.none 0))
    #[]
noncomputable def hpO90 : Params → Obj := fun _ =>
  Obj.mk (Value.type "code") none
    (Data.fields
      #[Value.str (Str.ofString "line_number_target") 293, Value.str (Str.ofString "line_number_target") 294, Value.str (Str.ofString "/claim/cut.py") 295, Value.int 59 0, Value.int 2 0,
        Value.int 0 0, Value.int 0 0, Value.int 3 0, Value.ref 85, Value.bool true, Value.int 181 0, Value.ref 86, Value.none, Value.ref 87, Value.ref 88, Value.ref 89, Value.int 298 0,
        Value.int 59 0, Value.str (Str.ofString "/claim/cut.py") 299])
    #[]
noncomputable def hpO91 : Params → Obj := fun _ =>
  Obj.mk (Value.type "function") none
    (Data.func
      (FuncData.mk (Str.ofString "line_number_target") (Str.ofString "line_number_target") (hpAr (hpAt hpBody 17)) (FuncBody.stmts (hpBd (hpAt hpBody 17)))
        (hpSc (hpAt hpBody 17)) 3 [] Value.none Value.none Value.none (Value.str (Str.ofString "emacs.charmotion") 241) none (Value.ref 90) Value.none 0))
    #[]
noncomputable def hpO92 : Params → Obj := fun _ => Obj.mk (Value.type "tuple") none (Data.seq #[]) #[]
noncomputable def hpO93 : Params → Obj := fun _ => Obj.mk Value.none none (Data.fields #[]) #[]
noncomputable def hpO94 : Params → Obj := fun _ => Obj.mk (Value.type "tuple") none (Data.seq #[Value.str (Str.ofString "code") 308, Value.str (Str.ofString "column") 309, Value.str (Str.ofString "width") 310]) #[]
noncomputable def hpO95 : Params → Obj := fun _ => Obj.mk (Value.type "tuple") none (Data.seq #[]) #[]
noncomputable def hpO96 : Params → Obj := fun _ =>
  Obj.mk Value.none none
    (Data.func
      (FuncData.mk (Str.ofString "width_at") (Str.ofString "width_at") (hpAr (hpAt hpBody 20)) (FuncBody.stmts (hpBd (hpAt hpBody 20)))
        (hpSc (hpAt hpBody 20)) 0 [] Value.none Value.none Value.none Value.none none Value.none Value.none 0))
    #[]
noncomputable def hpO97 : Params → Obj := fun _ =>
  Obj.mk (Value.type "code") none
    (Data.fields
      #[Value.str (Str.ofString "width_at") 305, Value.str (Str.ofString "width_at") 306, Value.str (Str.ofString "/claim/cut.py") 307, Value.int 63 0, Value.int 3 0, Value.int 0 0, Value.int 0 0,
        Value.int 3 0, Value.ref 92, Value.bool true, Value.int 181 0, Value.ref 93, Value.none, Value.ref 94, Value.ref 95, Value.ref 96, Value.int 311 0, Value.int 63 0,
        Value.str (Str.ofString "/claim/cut.py") 312])
    #[]
noncomputable def hpO98 : Params → Obj := fun _ =>
  Obj.mk (Value.type "function") none
    (Data.func
      (FuncData.mk (Str.ofString "width_at") (Str.ofString "width_at") (hpAr (hpAt hpBody 20)) (FuncBody.stmts (hpBd (hpAt hpBody 20)))
        (hpSc (hpAt hpBody 20)) 3 [] Value.none Value.none Value.none (Value.str (Str.ofString "emacs.columns") 301) none (Value.ref 97) Value.none 0))
    #[]
noncomputable def hpO99 : Params → Obj := fun _ => Obj.mk (Value.type "tuple") none (Data.seq #[]) #[]
noncomputable def hpO100 : Params → Obj := fun _ => Obj.mk Value.none none (Data.fields #[]) #[]
noncomputable def hpO101 : Params → Obj := fun _ =>
  Obj.mk (Value.type "tuple") none
    (Data.seq
      #[Value.str (Str.ofString "view") 317, Value.str (Str.ofString "place") 318, Value.str (Str.ofString "width") 319, Value.str (Str.ofString "column") 320, Value.str (Str.ofString "at") 321])
    #[]
noncomputable def hpO102 : Params → Obj := fun _ => Obj.mk (Value.type "tuple") none (Data.seq #[]) #[]
noncomputable def hpO103 : Params → Obj := fun _ =>
  Obj.mk Value.none none
    (Data.func
      (FuncData.mk (Str.ofString "column_at") (Str.ofString "column_at") (hpAr (hpAt hpBody 21)) (FuncBody.stmts (hpBd (hpAt hpBody 21)))
        (hpSc (hpAt hpBody 21)) 0 [] Value.none Value.none Value.none Value.none none Value.none Value.none 0))
    #[]
noncomputable def hpO104 : Params → Obj := fun _ =>
  Obj.mk (Value.type "code") none
    (Data.fields
      #[Value.str (Str.ofString "column_at") 314, Value.str (Str.ofString "column_at") 315, Value.str (Str.ofString "/claim/cut.py") 316, Value.int 69 0, Value.int 3 0, Value.int 0 0, Value.int 0 0,
        Value.int 3 0, Value.ref 99, Value.bool true, Value.int 181 0, Value.ref 100, Value.none, Value.ref 101, Value.ref 102, Value.ref 103, Value.int 322 0, Value.int 69 0,
        Value.str (Str.ofString "/claim/cut.py") 323])
    #[]
noncomputable def hpO105 : Params → Obj := fun _ =>
  Obj.mk (Value.type "function") none
    (Data.func
      (FuncData.mk (Str.ofString "column_at") (Str.ofString "column_at") (hpAr (hpAt hpBody 21)) (FuncBody.stmts (hpBd (hpAt hpBody 21)))
        (hpSc (hpAt hpBody 21)) 3 [] Value.none Value.none Value.none (Value.str (Str.ofString "emacs.columns") 301) none (Value.ref 104) Value.none 0))
    #[]
noncomputable def hpO106 : Params → Obj := fun _ => Obj.mk (Value.type "tuple") none (Data.seq #[]) #[]
noncomputable def hpO107 : Params → Obj := fun _ => Obj.mk Value.none none (Data.fields #[]) #[]
noncomputable def hpO108 : Params → Obj := fun _ =>
  Obj.mk (Value.type "tuple") none
    (Data.seq
      #[Value.str (Str.ofString "view") 328, Value.str (Str.ofString "place") 329, Value.str (Str.ofString "column") 330, Value.str (Str.ofString "width") 331, Value.str (Str.ofString "at") 332,
        Value.str (Str.ofString "last") 333, Value.str (Str.ofString "reached") 334])
    #[]
noncomputable def hpO109 : Params → Obj := fun _ => Obj.mk (Value.type "tuple") none (Data.seq #[]) #[]
noncomputable def hpO110 : Params → Obj := fun _ =>
  Obj.mk Value.none none
    (Data.func
      (FuncData.mk (Str.ofString "place_at") (Str.ofString "place_at") (hpAr (hpAt hpBody 22)) (FuncBody.stmts (hpBd (hpAt hpBody 22)))
        (hpSc (hpAt hpBody 22)) 0 [] Value.none Value.none Value.none Value.none none Value.none Value.none 0))
    #[]
noncomputable def hpO111 : Params → Obj := fun _ =>
  Obj.mk (Value.type "code") none
    (Data.fields
      #[Value.str (Str.ofString "place_at") 325, Value.str (Str.ofString "place_at") 326, Value.str (Str.ofString "/claim/cut.py") 327, Value.int 74 0, Value.int 4 0, Value.int 0 0, Value.int 0 0,
        Value.int 3 0, Value.ref 106, Value.bool true, Value.int 181 0, Value.ref 107, Value.none, Value.ref 108, Value.ref 109, Value.ref 110, Value.int 335 0, Value.int 74 0,
        Value.str (Str.ofString "/claim/cut.py") 336])
    #[]
noncomputable def hpO112 : Params → Obj := fun _ =>
  Obj.mk (Value.type "function") none
    (Data.func
      (FuncData.mk (Str.ofString "place_at") (Str.ofString "place_at") (hpAr (hpAt hpBody 22)) (FuncBody.stmts (hpBd (hpAt hpBody 22)))
        (hpSc (hpAt hpBody 22)) 3 [] Value.none Value.none Value.none (Value.str (Str.ofString "emacs.columns") 301) none (Value.ref 111) Value.none 0))
    #[]
noncomputable def hpO113 : Params → Obj := fun _ => Obj.mk (Value.type "tuple") none (Data.seq #[]) #[]
noncomputable def hpO114 : Params → Obj := fun _ => Obj.mk (Value.type "builtin_function_or_method") none (Data.fields #[Value.builtin "type.__prepare__", Value.type "type"]) #[]
noncomputable def hpO115 : Params → Obj := fun P =>
  Obj.mk (Value.type "dict") none
    (Data.dict
      #[DictEntry.mk (PyData.keyHash P (Str.ofString "__module__")) (Value.str (Str.ofString "__module__") 347) (Value.str (Str.ofString "emacs.linemotion") 338),
        DictEntry.mk (PyData.keyHash P (Str.ofString "__qualname__")) (Value.str (Str.ofString "__qualname__") 349) (Value.str (Str.ofString "Goal") 348),
        DictEntry.mk (PyData.keyHash P (Str.ofString "__firstlineno__")) (Value.str (Str.ofString "__firstlineno__") 351) (Value.int 83 350),
        DictEntry.mk (PyData.keyHash P (Str.ofString "__init__")) (Value.str (Str.ofString "__init__") 358) (Value.ref 126),
        DictEntry.mk (PyData.keyHash P (Str.ofString "begin")) (Value.str (Str.ofString "begin") 370) (Value.ref 133),
        DictEntry.mk (PyData.keyHash P (Str.ofString "set_column")) (Value.str (Str.ofString "set_column") 378) (Value.ref 140),
        DictEntry.mk (PyData.keyHash P (Str.ofString "forget")) (Value.str (Str.ofString "forget") 385) (Value.ref 147),
        DictEntry.mk (PyData.keyHash P (Str.ofString "place_on")) (Value.str (Str.ofString "place_on") 395) (Value.ref 154),
        DictEntry.mk (PyData.keyHash P (Str.ofString "__static_attributes__")) (Value.str (Str.ofString "__static_attributes__") 399) (Value.ref 155)]
      9)
    #[]
noncomputable def hpO116 : Params → Obj := fun _ => Obj.mk (Value.type "tuple") none (Data.seq #[]) #[]
noncomputable def hpO117 : Params → Obj := fun _ =>
  Obj.mk Value.none none
    (Data.fields
      #[Value.int 85 0, Value.int 4 0, Value.ref 125, Value.int 90 0, Value.int 4 0, Value.ref 132, Value.int 95 0, Value.int 4 0, Value.ref 139, Value.int 99 0, Value.int 4 0, Value.ref 146,
        Value.int 103 0, Value.int 4 0, Value.ref 153])
    #[]
noncomputable def hpO118 : Params → Obj := fun _ =>
  Obj.mk (Value.type "code") none
    (Data.fields
      #[Value.str (Str.ofString "Goal") 342, Value.str (Str.ofString "Goal") 343, Value.str (Str.ofString "/claim/cut.py") 344, Value.int 83 0, Value.int 0 0, Value.int 0 0, Value.int 0 0,
        Value.int 0 0, Value.ref 116, Value.bool false, Value.int 181 0, Value.ref 117, Value.none, Value.none, Value.none, Value.none, Value.int 345 0, Value.int 83 0,
        Value.str (Str.ofString "/claim/cut.py") 346])
    #[]
noncomputable def hpO119 : Params → Obj := fun _ =>
  Obj.mk (Value.type "frame") none Data.plain #[some (Value.ref 118), some (Value.ref 3), some (Value.ref 115), none, some (Value.str (Str.ofString "emacs.linemotion") 338), none, some (Value.ref 0)]
noncomputable def hpO120 : Params → Obj := fun _ => Obj.mk (Value.type "tuple") none (Data.seq #[]) #[]
noncomputable def hpO121 : Params → Obj := fun _ => Obj.mk Value.none none (Data.fields #[]) #[]
noncomputable def hpO122 : Params → Obj := fun _ => Obj.mk (Value.type "tuple") none (Data.seq #[Value.str (Str.ofString "self") 355]) #[]
noncomputable def hpO123 : Params → Obj := fun _ => Obj.mk (Value.type "tuple") none (Data.seq #[]) #[]
noncomputable def hpO124 : Params → Obj := fun _ =>
  Obj.mk Value.none none
    (Data.func
      (FuncData.mk (Str.ofString "__init__") (Str.ofString "Goal.__init__") (hpAr (hpAt (hpIn (hpAt hpBody 24)) 0))
        (FuncBody.stmts (hpBd (hpAt (hpIn (hpAt hpBody 24)) 0))) (hpSc (hpAt (hpIn (hpAt hpBody 29)) 1)) 0 [] Value.none Value.none Value.none
        Value.none none Value.none Value.none 0))
    #[]
noncomputable def hpO125 : Params → Obj := fun _ =>
  Obj.mk (Value.type "code") none
    (Data.fields
      #[Value.str (Str.ofString "__init__") 352, Value.str (Str.ofString "Goal.__init__") 353, Value.str (Str.ofString "/claim/cut.py") 354, Value.int 85 0, Value.int 1 0, Value.int 0 0,
        Value.int 0 0, Value.int 3 0, Value.ref 120, Value.bool true, Value.int 181 0, Value.ref 121, Value.none, Value.ref 122, Value.ref 123, Value.ref 124, Value.int 356 0, Value.int 85 0,
        Value.str (Str.ofString "/claim/cut.py") 357])
    #[]
noncomputable def hpO126 : Params → Obj := fun _ =>
  Obj.mk (Value.type "function") none
    (Data.func
      (FuncData.mk (Str.ofString "__init__") (Str.ofString "Goal.__init__") (hpAr (hpAt (hpIn (hpAt hpBody 24)) 0))
        (FuncBody.stmts (hpBd (hpAt (hpIn (hpAt hpBody 24)) 0))) (hpSc (hpAt (hpIn (hpAt hpBody 29)) 1)) 3 [] Value.none Value.none Value.none
        (Value.str (Str.ofString "emacs.linemotion") 338) none (Value.ref 125) Value.none 0))
    #[]
noncomputable def hpO127 : Params → Obj := fun _ => Obj.mk (Value.type "tuple") none (Data.seq #[]) #[]
noncomputable def hpO128 : Params → Obj := fun _ => Obj.mk Value.none none (Data.fields #[]) #[]
noncomputable def hpO129 : Params → Obj := fun _ =>
  Obj.mk (Value.type "tuple") none
    (Data.seq
      #[Value.str (Str.ofString "self") 362, Value.str (Str.ofString "view") 363, Value.str (Str.ofString "place") 364, Value.str (Str.ofString "width") 365,
        Value.str (Str.ofString "follows_ends") 366, Value.str (Str.ofString "is_at_end") 367])
    #[]
noncomputable def hpO130 : Params → Obj := fun _ => Obj.mk (Value.type "tuple") none (Data.seq #[]) #[]
noncomputable def hpO131 : Params → Obj := fun _ =>
  Obj.mk Value.none none
    (Data.func
      (FuncData.mk (Str.ofString "begin") (Str.ofString "Goal.begin") (hpAr (hpAt (hpIn (hpAt hpBody 24)) 1))
        (FuncBody.stmts (hpBd (hpAt (hpIn (hpAt hpBody 24)) 1))) (hpSc (hpAt (hpIn (hpAt hpBody 24)) 1)) 0 [] Value.none Value.none Value.none
        Value.none none Value.none Value.none 0))
    #[]
noncomputable def hpO132 : Params → Obj := fun _ =>
  Obj.mk (Value.type "code") none
    (Data.fields
      #[Value.str (Str.ofString "begin") 359, Value.str (Str.ofString "Goal.begin") 360, Value.str (Str.ofString "/claim/cut.py") 361, Value.int 90 0, Value.int 5 0, Value.int 0 0, Value.int 0 0,
        Value.int 3 0, Value.ref 127, Value.bool true, Value.int 181 0, Value.ref 128, Value.none, Value.ref 129, Value.ref 130, Value.ref 131, Value.int 368 0, Value.int 90 0,
        Value.str (Str.ofString "/claim/cut.py") 369])
    #[]
noncomputable def hpO133 : Params → Obj := fun _ =>
  Obj.mk (Value.type "function") none
    (Data.func
      (FuncData.mk (Str.ofString "begin") (Str.ofString "Goal.begin") (hpAr (hpAt (hpIn (hpAt hpBody 24)) 1))
        (FuncBody.stmts (hpBd (hpAt (hpIn (hpAt hpBody 24)) 1))) (hpSc (hpAt (hpIn (hpAt hpBody 24)) 1)) 3 [] Value.none Value.none Value.none
        (Value.str (Str.ofString "emacs.linemotion") 338) none (Value.ref 132) Value.none 0))
    #[]
noncomputable def hpO134 : Params → Obj := fun _ => Obj.mk (Value.type "tuple") none (Data.seq #[]) #[]
noncomputable def hpO135 : Params → Obj := fun _ => Obj.mk Value.none none (Data.fields #[]) #[]
noncomputable def hpO136 : Params → Obj := fun _ => Obj.mk (Value.type "tuple") none (Data.seq #[Value.str (Str.ofString "self") 374, Value.str (Str.ofString "column") 375]) #[]
noncomputable def hpO137 : Params → Obj := fun _ => Obj.mk (Value.type "tuple") none (Data.seq #[]) #[]
noncomputable def hpO138 : Params → Obj := fun _ =>
  Obj.mk Value.none none
    (Data.func
      (FuncData.mk (Str.ofString "set_column") (Str.ofString "Goal.set_column") (hpAr (hpAt (hpIn (hpAt hpBody 24)) 2))
        (FuncBody.stmts (hpBd (hpAt (hpIn (hpAt hpBody 24)) 2))) (hpSc (hpAt (hpIn (hpAt hpBody 24)) 2)) 0 [] Value.none Value.none Value.none
        Value.none none Value.none Value.none 0))
    #[]
noncomputable def hpO139 : Params → Obj := fun _ =>
  Obj.mk (Value.type "code") none
    (Data.fields
      #[Value.str (Str.ofString "set_column") 371, Value.str (Str.ofString "Goal.set_column") 372, Value.str (Str.ofString "/claim/cut.py") 373, Value.int 95 0, Value.int 2 0, Value.int 0 0,
        Value.int 0 0, Value.int 3 0, Value.ref 134, Value.bool true, Value.int 181 0, Value.ref 135, Value.none, Value.ref 136, Value.ref 137, Value.ref 138, Value.int 376 0, Value.int 95 0,
        Value.str (Str.ofString "/claim/cut.py") 377])
    #[]
noncomputable def hpO140 : Params → Obj := fun _ =>
  Obj.mk (Value.type "function") none
    (Data.func
      (FuncData.mk (Str.ofString "set_column") (Str.ofString "Goal.set_column") (hpAr (hpAt (hpIn (hpAt hpBody 24)) 2))
        (FuncBody.stmts (hpBd (hpAt (hpIn (hpAt hpBody 24)) 2))) (hpSc (hpAt (hpIn (hpAt hpBody 24)) 2)) 3 [] Value.none Value.none Value.none
        (Value.str (Str.ofString "emacs.linemotion") 338) none (Value.ref 139) Value.none 0))
    #[]
noncomputable def hpO141 : Params → Obj := fun _ => Obj.mk (Value.type "tuple") none (Data.seq #[]) #[]
noncomputable def hpO142 : Params → Obj := fun _ => Obj.mk Value.none none (Data.fields #[]) #[]
noncomputable def hpO143 : Params → Obj := fun _ => Obj.mk (Value.type "tuple") none (Data.seq #[Value.str (Str.ofString "self") 382]) #[]
noncomputable def hpO144 : Params → Obj := fun _ => Obj.mk (Value.type "tuple") none (Data.seq #[]) #[]
noncomputable def hpO145 : Params → Obj := fun _ =>
  Obj.mk Value.none none
    (Data.func
      (FuncData.mk (Str.ofString "forget") (Str.ofString "Goal.forget") (hpAr (hpAt (hpIn (hpAt hpBody 24)) 3))
        (FuncBody.stmts (hpBd (hpAt (hpIn (hpAt hpBody 24)) 3))) (hpSc (hpAt (hpIn (hpAt hpBody 29)) 1)) 0 [] Value.none Value.none Value.none
        Value.none none Value.none Value.none 0))
    #[]
noncomputable def hpO146 : Params → Obj := fun _ =>
  Obj.mk (Value.type "code") none
    (Data.fields
      #[Value.str (Str.ofString "forget") 379, Value.str (Str.ofString "Goal.forget") 380, Value.str (Str.ofString "/claim/cut.py") 381, Value.int 99 0, Value.int 1 0, Value.int 0 0, Value.int 0 0,
        Value.int 3 0, Value.ref 141, Value.bool true, Value.int 181 0, Value.ref 142, Value.none, Value.ref 143, Value.ref 144, Value.ref 145, Value.int 383 0, Value.int 99 0,
        Value.str (Str.ofString "/claim/cut.py") 384])
    #[]
noncomputable def hpO147 : Params → Obj := fun _ =>
  Obj.mk (Value.type "function") none
    (Data.func
      (FuncData.mk (Str.ofString "forget") (Str.ofString "Goal.forget") (hpAr (hpAt (hpIn (hpAt hpBody 24)) 3))
        (FuncBody.stmts (hpBd (hpAt (hpIn (hpAt hpBody 24)) 3))) (hpSc (hpAt (hpIn (hpAt hpBody 29)) 1)) 3 [] Value.none Value.none Value.none
        (Value.str (Str.ofString "emacs.linemotion") 338) none (Value.ref 146) Value.none 0))
    #[]
noncomputable def hpO148 : Params → Obj := fun _ => Obj.mk (Value.type "tuple") none (Data.seq #[]) #[]
noncomputable def hpO149 : Params → Obj := fun _ => Obj.mk Value.none none (Data.fields #[]) #[]
noncomputable def hpO150 : Params → Obj := fun _ =>
  Obj.mk (Value.type "tuple") none (Data.seq #[Value.str (Str.ofString "self") 389, Value.str (Str.ofString "view") 390, Value.str (Str.ofString "place") 391, Value.str (Str.ofString "width") 392])
    #[]
noncomputable def hpO151 : Params → Obj := fun _ => Obj.mk (Value.type "tuple") none (Data.seq #[]) #[]
noncomputable def hpO152 : Params → Obj := fun _ =>
  Obj.mk Value.none none
    (Data.func
      (FuncData.mk (Str.ofString "place_on") (Str.ofString "Goal.place_on") (hpAr (hpAt (hpIn (hpAt hpBody 24)) 4))
        (FuncBody.stmts (hpBd (hpAt (hpIn (hpAt hpBody 24)) 4))) (hpSc (hpAt (hpIn (hpAt hpBody 24)) 4)) 0 [] Value.none Value.none Value.none
        Value.none none Value.none Value.none 0))
    #[]
noncomputable def hpO153 : Params → Obj := fun _ =>
  Obj.mk (Value.type "code") none
    (Data.fields
      #[Value.str (Str.ofString "place_on") 386, Value.str (Str.ofString "Goal.place_on") 387, Value.str (Str.ofString "/claim/cut.py") 388, Value.int 103 0, Value.int 4 0, Value.int 0 0,
        Value.int 0 0, Value.int 3 0, Value.ref 148, Value.bool true, Value.int 181 0, Value.ref 149, Value.none, Value.ref 150, Value.ref 151, Value.ref 152, Value.int 393 0, Value.int 103 0,
        Value.str (Str.ofString "/claim/cut.py") 394])
    #[]
noncomputable def hpO154 : Params → Obj := fun _ =>
  Obj.mk (Value.type "function") none
    (Data.func
      (FuncData.mk (Str.ofString "place_on") (Str.ofString "Goal.place_on") (hpAr (hpAt (hpIn (hpAt hpBody 24)) 4))
        (FuncBody.stmts (hpBd (hpAt (hpIn (hpAt hpBody 24)) 4))) (hpSc (hpAt (hpIn (hpAt hpBody 24)) 4)) 3 [] Value.none Value.none Value.none
        (Value.str (Str.ofString "emacs.linemotion") 338) none (Value.ref 153) Value.none 0))
    #[]
noncomputable def hpO155 : Params → Obj := fun _ => Obj.mk (Value.type "tuple") none (Data.seq #[Value.str (Str.ofString "column") 396, Value.str (Str.ofString "fixed") 397, Value.str (Str.ofString "is_end") 398]) #[]
noncomputable def hpO156 : Params → Obj := fun P =>
  Obj.mk (Value.type "dict") none
    (Data.dict
      #[DictEntry.mk (PyData.keyHash P (Str.ofString "__module__")) (Value.str (Str.ofString "__module__") 347) (Value.str (Str.ofString "emacs.linemotion") 338),
        DictEntry.mk (PyData.keyHash P (Str.ofString "__firstlineno__")) (Value.str (Str.ofString "__firstlineno__") 351) (Value.int 83 350),
        DictEntry.mk (PyData.keyHash P (Str.ofString "__init__")) (Value.str (Str.ofString "__init__") 358) (Value.ref 126),
        DictEntry.mk (PyData.keyHash P (Str.ofString "begin")) (Value.str (Str.ofString "begin") 370) (Value.ref 133),
        DictEntry.mk (PyData.keyHash P (Str.ofString "set_column")) (Value.str (Str.ofString "set_column") 378) (Value.ref 140),
        DictEntry.mk (PyData.keyHash P (Str.ofString "forget")) (Value.str (Str.ofString "forget") 385) (Value.ref 147),
        DictEntry.mk (PyData.keyHash P (Str.ofString "place_on")) (Value.str (Str.ofString "place_on") 395) (Value.ref 154),
        DictEntry.mk (PyData.keyHash P (Str.ofString "__static_attributes__")) (Value.str (Str.ofString "__static_attributes__") 399) (Value.ref 155),
        DictEntry.mk (PyData.keyHash P (Str.ofString "__dict__")) (Value.str (Str.ofString "__dict__") 401) (Value.ref 158),
        DictEntry.mk (PyData.keyHash P (Str.ofString "__weakref__")) (Value.str (Str.ofString "__weakref__") 403) (Value.ref 159),
        DictEntry.mk (PyData.keyHash P (Str.ofString "__doc__")) (Value.str (Str.ofString "__doc__") 404) Value.none]
      4)
    #[]
noncomputable def hpO157 : Params → Obj := fun _ =>
  Obj.mk (Value.type "type") none (Data.cls (ClassData.mk (Str.ofString "Goal") [Value.type "object"] [Value.ref 157, Value.type "object"] 156 (Str.ofString "Goal") true [] [] false none false))
    #[none, none, some (Value.str (Str.ofString "Goal") 340), some (Value.str (Str.ofString "Goal") 348), some (Value.builtin "object.__new__"), some (Value.bool true)]
noncomputable def hpO158 : Params → Obj := fun _ =>
  Obj.mk (Value.type "getset_descriptor") none (Data.fields #[Value.str (Str.ofString "__dict__") 400, Value.ref 157, Value.builtin "function.__dict__", Value.builtin "function.__dict__#set"]) #[]
noncomputable def hpO159 : Params → Obj := fun _ => Obj.mk (Value.type "getset_descriptor") none (Data.fields #[Value.str (Str.ofString "__weakref__") 402, Value.ref 157, Value.builtin "ExceptionGroup.__weakref__", Value.none]) #[]
noncomputable def hpO160 : Params → Obj := fun _ => Obj.mk (Value.type "super") none (Data.fields #[Value.ref 157, Value.ref 157, Value.ref 157]) #[]
noncomputable def hpO161 : Params → Obj := fun _ => Obj.mk (Value.type "builtin_function_or_method") none (Data.fields #[Value.builtin "object.__init_subclass__", Value.ref 157]) #[]
noncomputable def hpO162 : Params → Obj := fun _ => Obj.mk (Value.type "tuple") none (Data.seq #[]) #[]
noncomputable def hpO163 : Params → Obj := fun _ => Obj.mk Value.none none (Data.fields #[]) #[]
noncomputable def hpO164 : Params → Obj := fun _ =>
  Obj.mk (Value.type "tuple") none
    (Data.seq
      #[Value.str (Str.ofString "view") 410, Value.str (Str.ofString "place") 411, Value.str (Str.ofString "many") 412, Value.str (Str.ofString "at") 413, Value.str (Str.ofString "turn") 414,
        Value.str (Str.ofString "following") 415])
    #[]
noncomputable def hpO165 : Params → Obj := fun _ => Obj.mk (Value.type "tuple") none (Data.seq #[]) #[]
noncomputable def hpO166 : Params → Obj := fun _ =>
  Obj.mk Value.none none
    (Data.func
      (FuncData.mk (Str.ofString "down_target") (Str.ofString "down_target") (hpAr (hpAt hpBody 25)) (FuncBody.stmts (hpBd (hpAt hpBody 25)))
        (hpSc (hpAt hpBody 25)) 0 [] Value.none Value.none Value.none Value.none none Value.none Value.none 0))
    #[]
noncomputable def hpO167 : Params → Obj := fun _ =>
  Obj.mk (Value.type "code") none
    (Data.fields
      #[Value.str (Str.ofString "down_target") 407, Value.str (Str.ofString "down_target") 408, Value.str (Str.ofString "/claim/cut.py") 409, Value.int 107 0, Value.int 3 0, Value.int 0 0,
        Value.int 0 0, Value.int 3 0, Value.ref 162, Value.bool true, Value.int 181 0, Value.ref 163, Value.none, Value.ref 164, Value.ref 165, Value.ref 166, Value.int 416 0, Value.int 107 0,
        Value.str (Str.ofString "/claim/cut.py") 417])
    #[]
noncomputable def hpO168 : Params → Obj := fun _ =>
  Obj.mk (Value.type "function") none
    (Data.func
      (FuncData.mk (Str.ofString "down_target") (Str.ofString "down_target") (hpAr (hpAt hpBody 25)) (FuncBody.stmts (hpBd (hpAt hpBody 25)))
        (hpSc (hpAt hpBody 25)) 3 [] Value.none Value.none Value.none (Value.str (Str.ofString "emacs.linemotion") 338) none (Value.ref 167) Value.none 0))
    #[]
noncomputable def hpO169 : Params → Obj := fun _ => Obj.mk (Value.type "tuple") none (Data.seq #[]) #[]
noncomputable def hpO170 : Params → Obj := fun _ => Obj.mk Value.none none (Data.fields #[]) #[]
noncomputable def hpO171 : Params → Obj := fun _ =>
  Obj.mk (Value.type "tuple") none
    (Data.seq
      #[Value.str (Str.ofString "view") 422, Value.str (Str.ofString "place") 423, Value.str (Str.ofString "many") 424, Value.str (Str.ofString "at") 425, Value.str (Str.ofString "lacking") 426])
    #[]
noncomputable def hpO172 : Params → Obj := fun _ => Obj.mk (Value.type "tuple") none (Data.seq #[]) #[]
noncomputable def hpO173 : Params → Obj := fun _ =>
  Obj.mk Value.none none
    (Data.func
      (FuncData.mk (Str.ofString "up_target") (Str.ofString "up_target") (hpAr (hpAt hpBody 26)) (FuncBody.stmts (hpBd (hpAt hpBody 26)))
        (hpSc (hpAt hpBody 26)) 0 [] Value.none Value.none Value.none Value.none none Value.none Value.none 0))
    #[]
noncomputable def hpO174 : Params → Obj := fun _ =>
  Obj.mk (Value.type "code") none
    (Data.fields
      #[Value.str (Str.ofString "up_target") 419, Value.str (Str.ofString "up_target") 420, Value.str (Str.ofString "/claim/cut.py") 421, Value.int 115 0, Value.int 3 0, Value.int 0 0, Value.int 0 0,
        Value.int 3 0, Value.ref 169, Value.bool true, Value.int 181 0, Value.ref 170, Value.none, Value.ref 171, Value.ref 172, Value.ref 173, Value.int 427 0, Value.int 115 0,
        Value.str (Str.ofString "/claim/cut.py") 428])
    #[]
noncomputable def hpO175 : Params → Obj := fun _ =>
  Obj.mk (Value.type "function") none
    (Data.func
      (FuncData.mk (Str.ofString "up_target") (Str.ofString "up_target") (hpAr (hpAt hpBody 26)) (FuncBody.stmts (hpBd (hpAt hpBody 26)))
        (hpSc (hpAt hpBody 26)) 3 [] Value.none Value.none Value.none (Value.str (Str.ofString "emacs.linemotion") 338) none (Value.ref 174) Value.none 0))
    #[]
noncomputable def hpO176 : Params → Obj := fun _ => Obj.mk (Value.type "tuple") none (Data.seq #[]) #[]
noncomputable def hpO177 : Params → Obj := fun _ => Obj.mk Value.none none (Data.fields #[]) #[]
noncomputable def hpO178 : Params → Obj := fun _ =>
  Obj.mk (Value.type "tuple") none
    (Data.seq
      #[Value.str (Str.ofString "view") 433, Value.str (Str.ofString "place") 434, Value.str (Str.ofString "many") 435, Value.str (Str.ofString "goal") 436, Value.str (Str.ofString "width") 437,
        Value.str (Str.ofString "at") 438, Value.str (Str.ofString "word") 439])
    #[]
noncomputable def hpO179 : Params → Obj := fun _ => Obj.mk (Value.type "tuple") none (Data.seq #[]) #[]
noncomputable def hpO180 : Params → Obj := fun _ =>
  Obj.mk Value.none none
    (Data.func
      (FuncData.mk (Str.ofString "goal_target") (Str.ofString "goal_target") (hpAr (hpAt hpBody 27)) (FuncBody.stmts (hpBd (hpAt hpBody 27)))
        (hpSc (hpAt hpBody 27)) 0 [] Value.none Value.none Value.none Value.none none Value.none Value.none 0))
    #[]
noncomputable def hpO181 : Params → Obj := fun _ =>
  Obj.mk (Value.type "code") none
    (Data.fields
      #[Value.str (Str.ofString "goal_target") 430, Value.str (Str.ofString "goal_target") 431, Value.str (Str.ofString "/claim/cut.py") 432, Value.int 118 0, Value.int 5 0, Value.int 0 0,
        Value.int 0 0, Value.int 3 0, Value.ref 176, Value.bool true, Value.int 181 0, Value.ref 177, Value.none, Value.ref 178, Value.ref 179, Value.ref 180, Value.int 440 0, Value.int 118 0,
        Value.str (Str.ofString "/claim/cut.py") 441])
    #[]
noncomputable def hpO182 : Params → Obj := fun _ =>
  Obj.mk (Value.type "function") none
    (Data.func
      (FuncData.mk (Str.ofString "goal_target") (Str.ofString "goal_target") (hpAr (hpAt hpBody 27)) (FuncBody.stmts (hpBd (hpAt hpBody 27)))
        (hpSc (hpAt hpBody 27)) 3 [] Value.none Value.none Value.none (Value.str (Str.ofString "emacs.linemotion") 338) none (Value.ref 181) Value.none 0))
    #[]
noncomputable def hpO183 : Params → Obj := fun _ => Obj.mk (Value.type "tuple") none (Data.seq #[]) #[]
noncomputable def hpO184 : Params → Obj := fun _ => Obj.mk (Value.type "builtin_function_or_method") none (Data.fields #[Value.builtin "type.__prepare__", Value.type "type"]) #[]
noncomputable def hpO185 : Params → Obj := fun P =>
  Obj.mk (Value.type "dict") none
    (Data.dict
      #[DictEntry.mk (PyData.keyHash P (Str.ofString "__module__")) (Value.str (Str.ofString "__module__") 452) (Value.str (Str.ofString "emacs.textrow") 443),
        DictEntry.mk (PyData.keyHash P (Str.ofString "__qualname__")) (Value.str (Str.ofString "__qualname__") 454) (Value.str (Str.ofString "TextRow") 453),
        DictEntry.mk (PyData.keyHash P (Str.ofString "__firstlineno__")) (Value.str (Str.ofString "__firstlineno__") 456) (Value.int 122 455),
        DictEntry.mk (PyData.keyHash P (Str.ofString "__init__")) (Value.str (Str.ofString "__init__") 466) (Value.ref 197),
        DictEntry.mk (PyData.keyHash P (Str.ofString "begin")) (Value.str (Str.ofString "begin") 473) (Value.ref 204),
        DictEntry.mk (PyData.keyHash P (Str.ofString "end")) (Value.str (Str.ofString "end") 480) (Value.ref 211),
        DictEntry.mk (PyData.keyHash P (Str.ofString "code_at")) (Value.str (Str.ofString "code_at") 488) (Value.ref 218),
        DictEntry.mk (PyData.keyHash P (Str.ofString "__static_attributes__")) (Value.str (Str.ofString "__static_attributes__") 491) (Value.ref 219)]
      8)
    #[]
noncomputable def hpO186 : Params → Obj := fun _ => Obj.mk (Value.type "tuple") none (Data.seq #[]) #[]
noncomputable def hpO187 : Params → Obj := fun _ =>
  Obj.mk Value.none none
    (Data.fields
      #[Value.int 124 0, Value.int 4 0, Value.ref 196, Value.int 128 0, Value.int 4 0, Value.ref 203, Value.int 131 0, Value.int 4 0, Value.ref 210, Value.int 134 0, Value.int 4 0, Value.ref 217])
    #[]
noncomputable def hpO188 : Params → Obj := fun _ =>
  Obj.mk (Value.type "code") none
    (Data.fields
      #[Value.str (Str.ofString "TextRow") 447, Value.str (Str.ofString "TextRow") 448, Value.str (Str.ofString "/claim/cut.py") 449, Value.int 122 0, Value.int 0 0, Value.int 0 0, Value.int 0 0,
        Value.int 0 0, Value.ref 186, Value.bool false, Value.int 181 0, Value.ref 187, Value.none, Value.none, Value.none, Value.none, Value.int 450 0, Value.int 122 0,
        Value.str (Str.ofString "/claim/cut.py") 451])
    #[]
noncomputable def hpO189 : Params → Obj := fun _ =>
  Obj.mk (Value.type "frame") none Data.plain #[some (Value.ref 188), some (Value.ref 3), some (Value.ref 185), none, some (Value.str (Str.ofString "emacs.textrow") 443), none, some (Value.ref 0)]
noncomputable def hpO190 : Params → Obj := fun _ => Obj.mk (Value.type "tuple") none (Data.seq #[Value.int 1 457]) #[]
noncomputable def hpO191 : Params → Obj := fun _ => Obj.mk (Value.type "tuple") none (Data.seq #[]) #[]
noncomputable def hpO192 : Params → Obj := fun _ => Obj.mk Value.none none (Data.fields #[]) #[]
noncomputable def hpO193 : Params → Obj := fun _ => Obj.mk (Value.type "tuple") none (Data.seq #[Value.str (Str.ofString "self") 461, Value.str (Str.ofString "codes") 462, Value.str (Str.ofString "place") 463]) #[]
noncomputable def hpO194 : Params → Obj := fun _ => Obj.mk (Value.type "tuple") none (Data.seq #[]) #[]
noncomputable def hpO195 : Params → Obj := fun _ =>
  Obj.mk Value.none none
    (Data.func
      (FuncData.mk (Str.ofString "__init__") (Str.ofString "TextRow.__init__") (hpAr (hpAt (hpIn (hpAt hpBody 29)) 0))
        (FuncBody.stmts (hpBd (hpAt (hpIn (hpAt hpBody 29)) 0))) (hpSc (hpAt (hpIn (hpAt hpBody 29)) 0)) 0 [] Value.none Value.none Value.none
        Value.none none Value.none Value.none 0))
    #[]
noncomputable def hpO196 : Params → Obj := fun _ =>
  Obj.mk (Value.type "code") none
    (Data.fields
      #[Value.str (Str.ofString "__init__") 458, Value.str (Str.ofString "TextRow.__init__") 459, Value.str (Str.ofString "/claim/cut.py") 460, Value.int 124 0, Value.int 3 0, Value.int 0 0,
        Value.int 0 0, Value.int 3 0, Value.ref 191, Value.bool true, Value.int 181 0, Value.ref 192, Value.none, Value.ref 193, Value.ref 194, Value.ref 195, Value.int 464 0, Value.int 124 0,
        Value.str (Str.ofString "/claim/cut.py") 465])
    #[]
noncomputable def hpO197 : Params → Obj := fun _ =>
  Obj.mk (Value.type "function") none
    (Data.func
      (FuncData.mk (Str.ofString "__init__") (Str.ofString "TextRow.__init__") (hpAr (hpAt (hpIn (hpAt hpBody 29)) 0))
        (FuncBody.stmts (hpBd (hpAt (hpIn (hpAt hpBody 29)) 0))) (hpSc (hpAt (hpIn (hpAt hpBody 29)) 0)) 3 [] (Value.ref 190) Value.none Value.none
        (Value.str (Str.ofString "emacs.textrow") 443) none (Value.ref 196) Value.none 0))
    #[]
noncomputable def hpO198 : Params → Obj := fun _ => Obj.mk (Value.type "tuple") none (Data.seq #[]) #[]
noncomputable def hpO199 : Params → Obj := fun _ => Obj.mk Value.none none (Data.fields #[]) #[]
noncomputable def hpO200 : Params → Obj := fun _ => Obj.mk (Value.type "tuple") none (Data.seq #[Value.str (Str.ofString "self") 470]) #[]
noncomputable def hpO201 : Params → Obj := fun _ => Obj.mk (Value.type "tuple") none (Data.seq #[]) #[]
noncomputable def hpO202 : Params → Obj := fun _ =>
  Obj.mk Value.none none
    (Data.func
      (FuncData.mk (Str.ofString "begin") (Str.ofString "TextRow.begin") (hpAr (hpAt (hpIn (hpAt hpBody 29)) 1))
        (FuncBody.stmts (hpBd (hpAt (hpIn (hpAt hpBody 29)) 1))) (hpSc (hpAt (hpIn (hpAt hpBody 29)) 1)) 0 [] Value.none Value.none Value.none
        Value.none none Value.none Value.none 0))
    #[]
noncomputable def hpO203 : Params → Obj := fun _ =>
  Obj.mk (Value.type "code") none
    (Data.fields
      #[Value.str (Str.ofString "begin") 467, Value.str (Str.ofString "TextRow.begin") 468, Value.str (Str.ofString "/claim/cut.py") 469, Value.int 128 0, Value.int 1 0, Value.int 0 0, Value.int 0 0,
        Value.int 3 0, Value.ref 198, Value.bool true, Value.int 181 0, Value.ref 199, Value.none, Value.ref 200, Value.ref 201, Value.ref 202, Value.int 471 0, Value.int 128 0,
        Value.str (Str.ofString "/claim/cut.py") 472])
    #[]
noncomputable def hpO204 : Params → Obj := fun _ =>
  Obj.mk (Value.type "function") none
    (Data.func
      (FuncData.mk (Str.ofString "begin") (Str.ofString "TextRow.begin") (hpAr (hpAt (hpIn (hpAt hpBody 29)) 1))
        (FuncBody.stmts (hpBd (hpAt (hpIn (hpAt hpBody 29)) 1))) (hpSc (hpAt (hpIn (hpAt hpBody 29)) 1)) 3 [] Value.none Value.none Value.none
        (Value.str (Str.ofString "emacs.textrow") 443) none (Value.ref 203) Value.none 0))
    #[]
noncomputable def hpO205 : Params → Obj := fun _ => Obj.mk (Value.type "tuple") none (Data.seq #[]) #[]
noncomputable def hpO206 : Params → Obj := fun _ => Obj.mk Value.none none (Data.fields #[]) #[]
noncomputable def hpO207 : Params → Obj := fun _ => Obj.mk (Value.type "tuple") none (Data.seq #[Value.str (Str.ofString "self") 477]) #[]
noncomputable def hpO208 : Params → Obj := fun _ => Obj.mk (Value.type "tuple") none (Data.seq #[]) #[]
noncomputable def hpO209 : Params → Obj := fun _ =>
  Obj.mk Value.none none
    (Data.func
      (FuncData.mk (Str.ofString "end") (Str.ofString "TextRow.end") (hpAr (hpAt (hpIn (hpAt hpBody 29)) 2))
        (FuncBody.stmts (hpBd (hpAt (hpIn (hpAt hpBody 29)) 2))) (hpSc (hpAt (hpIn (hpAt hpBody 29)) 2)) 0 [] Value.none Value.none Value.none
        Value.none none Value.none Value.none 0))
    #[]
noncomputable def hpO210 : Params → Obj := fun _ =>
  Obj.mk (Value.type "code") none
    (Data.fields
      #[Value.str (Str.ofString "end") 474, Value.str (Str.ofString "TextRow.end") 475, Value.str (Str.ofString "/claim/cut.py") 476, Value.int 131 0, Value.int 1 0, Value.int 0 0, Value.int 0 0,
        Value.int 3 0, Value.ref 205, Value.bool true, Value.int 181 0, Value.ref 206, Value.none, Value.ref 207, Value.ref 208, Value.ref 209, Value.int 478 0, Value.int 131 0,
        Value.str (Str.ofString "/claim/cut.py") 479])
    #[]
noncomputable def hpO211 : Params → Obj := fun _ =>
  Obj.mk (Value.type "function") none
    (Data.func
      (FuncData.mk (Str.ofString "end") (Str.ofString "TextRow.end") (hpAr (hpAt (hpIn (hpAt hpBody 29)) 2))
        (FuncBody.stmts (hpBd (hpAt (hpIn (hpAt hpBody 29)) 2))) (hpSc (hpAt (hpIn (hpAt hpBody 29)) 2)) 3 [] Value.none Value.none Value.none
        (Value.str (Str.ofString "emacs.textrow") 443) none (Value.ref 210) Value.none 0))
    #[]
noncomputable def hpO212 : Params → Obj := fun _ => Obj.mk (Value.type "tuple") none (Data.seq #[]) #[]
noncomputable def hpO213 : Params → Obj := fun _ => Obj.mk Value.none none (Data.fields #[]) #[]
noncomputable def hpO214 : Params → Obj := fun _ => Obj.mk (Value.type "tuple") none (Data.seq #[Value.str (Str.ofString "self") 484, Value.str (Str.ofString "place") 485]) #[]
noncomputable def hpO215 : Params → Obj := fun _ => Obj.mk (Value.type "tuple") none (Data.seq #[]) #[]
noncomputable def hpO216 : Params → Obj := fun _ =>
  Obj.mk Value.none none
    (Data.func
      (FuncData.mk (Str.ofString "code_at") (Str.ofString "TextRow.code_at") (hpAr (hpAt (hpIn (hpAt hpBody 29)) 3))
        (FuncBody.stmts (hpBd (hpAt (hpIn (hpAt hpBody 29)) 3))) (hpSc (hpAt (hpIn (hpAt hpBody 29)) 3)) 0 [] Value.none Value.none Value.none
        Value.none none Value.none Value.none 0))
    #[]
noncomputable def hpO217 : Params → Obj := fun _ =>
  Obj.mk (Value.type "code") none
    (Data.fields
      #[Value.str (Str.ofString "code_at") 481, Value.str (Str.ofString "TextRow.code_at") 482, Value.str (Str.ofString "/claim/cut.py") 483, Value.int 134 0, Value.int 2 0, Value.int 0 0,
        Value.int 0 0, Value.int 3 0, Value.ref 212, Value.bool true, Value.int 181 0, Value.ref 213, Value.none, Value.ref 214, Value.ref 215, Value.ref 216, Value.int 486 0, Value.int 134 0,
        Value.str (Str.ofString "/claim/cut.py") 487])
    #[]
noncomputable def hpO218 : Params → Obj := fun _ =>
  Obj.mk (Value.type "function") none
    (Data.func
      (FuncData.mk (Str.ofString "code_at") (Str.ofString "TextRow.code_at") (hpAr (hpAt (hpIn (hpAt hpBody 29)) 3))
        (FuncBody.stmts (hpBd (hpAt (hpIn (hpAt hpBody 29)) 3))) (hpSc (hpAt (hpIn (hpAt hpBody 29)) 3)) 3 [] Value.none Value.none Value.none
        (Value.str (Str.ofString "emacs.textrow") 443) none (Value.ref 217) Value.none 0))
    #[]
noncomputable def hpO219 : Params → Obj := fun _ => Obj.mk (Value.type "tuple") none (Data.seq #[Value.str (Str.ofString "codes") 489, Value.str (Str.ofString "place") 490]) #[]
noncomputable def hpO220 : Params → Obj := fun P =>
  Obj.mk (Value.type "dict") none
    (Data.dict
      #[DictEntry.mk (PyData.keyHash P (Str.ofString "__module__")) (Value.str (Str.ofString "__module__") 452) (Value.str (Str.ofString "emacs.textrow") 443),
        DictEntry.mk (PyData.keyHash P (Str.ofString "__firstlineno__")) (Value.str (Str.ofString "__firstlineno__") 456) (Value.int 122 455),
        DictEntry.mk (PyData.keyHash P (Str.ofString "__init__")) (Value.str (Str.ofString "__init__") 466) (Value.ref 197),
        DictEntry.mk (PyData.keyHash P (Str.ofString "begin")) (Value.str (Str.ofString "begin") 473) (Value.ref 204),
        DictEntry.mk (PyData.keyHash P (Str.ofString "end")) (Value.str (Str.ofString "end") 480) (Value.ref 211),
        DictEntry.mk (PyData.keyHash P (Str.ofString "code_at")) (Value.str (Str.ofString "code_at") 488) (Value.ref 218),
        DictEntry.mk (PyData.keyHash P (Str.ofString "__static_attributes__")) (Value.str (Str.ofString "__static_attributes__") 491) (Value.ref 219),
        DictEntry.mk (PyData.keyHash P (Str.ofString "__dict__")) (Value.str (Str.ofString "__dict__") 493) (Value.ref 222),
        DictEntry.mk (PyData.keyHash P (Str.ofString "__weakref__")) (Value.str (Str.ofString "__weakref__") 495) (Value.ref 223),
        DictEntry.mk (PyData.keyHash P (Str.ofString "__doc__")) (Value.str (Str.ofString "__doc__") 496) Value.none]
      4)
    #[]
noncomputable def hpO221 : Params → Obj := fun _ =>
  Obj.mk (Value.type "type") none (Data.cls (ClassData.mk (Str.ofString "TextRow") [Value.type "object"] [Value.ref 221, Value.type "object"] 220 (Str.ofString "TextRow") true [] [] false none false))
    #[none, none, some (Value.str (Str.ofString "TextRow") 445), some (Value.str (Str.ofString "TextRow") 453), some (Value.builtin "object.__new__"), some (Value.bool true)]
noncomputable def hpO222 : Params → Obj := fun _ =>
  Obj.mk (Value.type "getset_descriptor") none (Data.fields #[Value.str (Str.ofString "__dict__") 492, Value.ref 221, Value.builtin "function.__dict__", Value.builtin "function.__dict__#set"]) #[]
noncomputable def hpO223 : Params → Obj := fun _ => Obj.mk (Value.type "getset_descriptor") none (Data.fields #[Value.str (Str.ofString "__weakref__") 494, Value.ref 221, Value.builtin "ExceptionGroup.__weakref__", Value.none]) #[]
noncomputable def hpO224 : Params → Obj := fun _ => Obj.mk (Value.type "super") none (Data.fields #[Value.ref 221, Value.ref 221, Value.ref 221]) #[]
noncomputable def hpO225 : Params → Obj := fun _ => Obj.mk (Value.type "builtin_function_or_method") none (Data.fields #[Value.builtin "object.__init_subclass__", Value.ref 221]) #[]
noncomputable def hpO226 : Params → Obj := fun _ => Obj.mk (Value.type "tuple") none (Data.seq #[]) #[]
noncomputable def hpO227 : Params → Obj := fun _ => Obj.mk Value.none none (Data.fields #[]) #[]
noncomputable def hpO228 : Params → Obj := fun _ => Obj.mk (Value.type "tuple") none (Data.seq #[Value.str (Str.ofString "_law_deck") 504, Value.str (Str.ofString "_law_many") 505, Value.str (Str.ofString "_law_found") 506]) #[]
noncomputable def hpO229 : Params → Obj := fun _ => Obj.mk (Value.type "tuple") none (Data.seq #[]) #[]
noncomputable def hpO230 : Params → Obj := fun _ =>
  Obj.mk Value.none none
    (Data.func
      (FuncData.mk (Str.ofString "_law_draw") (Str.ofString "_law_draw") (hpAr (hpAt hpBody 31)) (FuncBody.stmts (hpBd (hpAt hpBody 31)))
        (hpSc (hpAt hpBody 31)) 0 [] Value.none Value.none Value.none Value.none none Value.none Value.none 0))
    #[]
noncomputable def hpO231 : Params → Obj := fun _ =>
  Obj.mk (Value.type "code") none
    (Data.fields
      #[Value.str (Str.ofString "_law_draw") 501, Value.str (Str.ofString "_law_draw") 502, Value.str (Str.ofString "/claim/cut.py") 503, Value.int 139 0, Value.int 2 0, Value.int 0 0, Value.int 0 0,
        Value.int 3 0, Value.ref 226, Value.bool true, Value.int 181 0, Value.ref 227, Value.none, Value.ref 228, Value.ref 229, Value.ref 230, Value.int 507 0, Value.int 139 0,
        Value.str (Str.ofString "/claim/cut.py") 508])
    #[]
noncomputable def hpO232 : Params → Obj := fun _ =>
  Obj.mk (Value.type "function") none
    (Data.func
      (FuncData.mk (Str.ofString "_law_draw") (Str.ofString "_law_draw") (hpAr (hpAt hpBody 31)) (FuncBody.stmts (hpBd (hpAt hpBody 31)))
        (hpSc (hpAt hpBody 31)) 3 [] Value.none Value.none Value.none (Value.str (Str.ofString "law_np0031_01") 499) none (Value.ref 231) Value.none 0))
    #[]
noncomputable def hpO233 : Params → Obj := fun _ => Obj.mk (Value.type "tuple") none (Data.seq #[]) #[]
noncomputable def hpO234 : Params → Obj := fun _ => Obj.mk Value.none none (Data.fields #[]) #[]
noncomputable def hpO235 : Params → Obj := fun _ =>
  Obj.mk Value.none none
    (Data.func
      (FuncData.mk (Str.ofString "_law_deck_of") (Str.ofString "_law_deck_of") (hpAr (hpAt hpBody 32)) (FuncBody.stmts (hpBd (hpAt hpBody 32)))
        (hpSc (hpAt hpBody 32)) 0 [] Value.none Value.none Value.none Value.none none Value.none Value.none 0))
    #[]
noncomputable def hpO236 : Params → Obj := fun _ =>
  Obj.mk (Value.type "code") none
    (Data.fields
      #[Value.str (Str.ofString "_law_deck_of") 510, Value.str (Str.ofString "_law_deck_of") 511, Value.str (Str.ofString "/claim/cut.py") 512, Value.int 148 0, Value.int 1 0, Value.int 0 0,
        Value.int 0 0, Value.int 3 0, Value.ref 233, Value.bool true, Value.int 181 0, Value.ref 234, Value.none, Value.none, Value.none, Value.ref 235, Value.int 513 0, Value.int 148 0,
        Value.str (Str.ofString "/claim/cut.py") 514])
    #[]
noncomputable def hpO237 : Params → Obj := fun _ =>
  Obj.mk (Value.type "function") none
    (Data.func
      (FuncData.mk (Str.ofString "_law_deck_of") (Str.ofString "_law_deck_of") (hpAr (hpAt hpBody 32)) (FuncBody.stmts (hpBd (hpAt hpBody 32)))
        (hpSc (hpAt hpBody 32)) 3 [] Value.none Value.none Value.none (Value.str (Str.ofString "law_np0031_01") 499) none (Value.ref 236) Value.none 0))
    #[]
noncomputable def hpO238 : Params → Obj := fun _ => Obj.mk (Value.type "tuple") none (Data.seq #[]) #[]
noncomputable def hpO239 : Params → Obj := fun _ => Obj.mk Value.none none (Data.fields #[]) #[]
noncomputable def hpO240 : Params → Obj := fun _ => Obj.mk (Value.type "tuple") none (Data.seq #[Value.str (Str.ofString "_law_deck") 519, Value.str (Str.ofString "_law_items") 520]) #[]
noncomputable def hpO241 : Params → Obj := fun _ => Obj.mk (Value.type "tuple") none (Data.seq #[]) #[]
noncomputable def hpO242 : Params → Obj := fun _ =>
  Obj.mk Value.none none
    (Data.func
      (FuncData.mk (Str.ofString "_law_one") (Str.ofString "_law_one") (hpAr (hpAt hpBody 33)) (FuncBody.stmts (hpBd (hpAt hpBody 33)))
        (hpSc (hpAt hpBody 33)) 0 [] Value.none Value.none Value.none Value.none none Value.none Value.none 0))
    #[]
noncomputable def hpO243 : Params → Obj := fun _ =>
  Obj.mk (Value.type "code") none
    (Data.fields
      #[Value.str (Str.ofString "_law_one") 516, Value.str (Str.ofString "_law_one") 517, Value.str (Str.ofString "/claim/cut.py") 518, Value.int 153 0, Value.int 2 0, Value.int 0 0, Value.int 0 0,
        Value.int 3 0, Value.ref 238, Value.bool true, Value.int 181 0, Value.ref 239, Value.none, Value.ref 240, Value.ref 241, Value.ref 242, Value.int 521 0, Value.int 153 0,
        Value.str (Str.ofString "/claim/cut.py") 522])
    #[]
noncomputable def hpO244 : Params → Obj := fun _ =>
  Obj.mk (Value.type "function") none
    (Data.func
      (FuncData.mk (Str.ofString "_law_one") (Str.ofString "_law_one") (hpAr (hpAt hpBody 33)) (FuncBody.stmts (hpBd (hpAt hpBody 33)))
        (hpSc (hpAt hpBody 33)) 3 [] Value.none Value.none Value.none (Value.str (Str.ofString "law_np0031_01") 499) none (Value.ref 243) Value.none 0))
    #[]
noncomputable def hpO245 : Params → Obj := fun _ => Obj.mk (Value.type "tuple") none (Data.seq #[]) #[]
noncomputable def hpO246 : Params → Obj := fun _ => Obj.mk Value.none none (Data.fields #[]) #[]
noncomputable def hpO247 : Params → Obj := fun _ =>
  Obj.mk Value.none none
    (Data.func
      (FuncData.mk (Str.ofString "_law_some_codes") (Str.ofString "_law_some_codes") (hpAr (hpAt hpBody 34)) (FuncBody.stmts (hpBd (hpAt hpBody 34)))
        (hpSc (hpAt hpBody 34)) 0 [] Value.none Value.none Value.none Value.none none Value.none Value.none 0))
    #[]
noncomputable def hpO248 : Params → Obj := fun _ =>
  Obj.mk (Value.type "code") none
    (Data.fields
      #[Value.str (Str.ofString "_law_some_codes") 524, Value.str (Str.ofString "_law_some_codes") 525, Value.str (Str.ofString "/claim/cut.py") 526, Value.int 155 0, Value.int 3 0, Value.int 0 0,
        Value.int 0 0, Value.int 3 0, Value.ref 245, Value.bool true, Value.int 181 0, Value.ref 246, Value.none, Value.none, Value.none, Value.ref 247, Value.int 527 0, Value.int 155 0,
        Value.str (Str.ofString "/claim/cut.py") 528])
    #[]
noncomputable def hpO249 : Params → Obj := fun _ =>
  Obj.mk (Value.type "function") none
    (Data.func
      (FuncData.mk (Str.ofString "_law_some_codes") (Str.ofString "_law_some_codes") (hpAr (hpAt hpBody 34)) (FuncBody.stmts (hpBd (hpAt hpBody 34)))
        (hpSc (hpAt hpBody 34)) 3 [] Value.none Value.none Value.none (Value.str (Str.ofString "law_np0031_01") 499) none (Value.ref 248) Value.none 0))
    #[]
noncomputable def hpO250 : Params → Obj := fun _ => Obj.mk (Value.type "tuple") none (Data.seq #[]) #[]
noncomputable def hpO251 : Params → Obj := fun _ => Obj.mk Value.none none (Data.fields #[]) #[]
noncomputable def hpO252 : Params → Obj := fun _ =>
  Obj.mk (Value.type "tuple") none
    (Data.seq #[Value.str (Str.ofString "_law_line") 533, Value.str (Str.ofString "_law_width") 534, Value.str (Str.ofString "_law_found") 535, Value.str (Str.ofString "_law_sign") 536]) #[]
noncomputable def hpO253 : Params → Obj := fun _ => Obj.mk (Value.type "tuple") none (Data.seq #[]) #[]
noncomputable def hpO254 : Params → Obj := fun _ =>
  Obj.mk Value.none none
    (Data.func
      (FuncData.mk (Str.ofString "_law_columns") (Str.ofString "_law_columns") (hpAr (hpAt hpBody 35)) (FuncBody.stmts (hpBd (hpAt hpBody 35)))
        (hpSc (hpAt hpBody 35)) 0 [] Value.none Value.none Value.none Value.none none Value.none Value.none 0))
    #[]
noncomputable def hpO255 : Params → Obj := fun _ =>
  Obj.mk (Value.type "code") none
    (Data.fields
      #[Value.str (Str.ofString "_law_columns") 530, Value.str (Str.ofString "_law_columns") 531, Value.str (Str.ofString "/claim/cut.py") 532, Value.int 157 0, Value.int 2 0, Value.int 0 0,
        Value.int 0 0, Value.int 3 0, Value.ref 250, Value.bool true, Value.int 181 0, Value.ref 251, Value.none, Value.ref 252, Value.ref 253, Value.ref 254, Value.int 537 0, Value.int 157 0,
        Value.str (Str.ofString "/claim/cut.py") 538])
    #[]
noncomputable def hpO256 : Params → Obj := fun _ =>
  Obj.mk (Value.type "function") none
    (Data.func
      (FuncData.mk (Str.ofString "_law_columns") (Str.ofString "_law_columns") (hpAr (hpAt hpBody 35)) (FuncBody.stmts (hpBd (hpAt hpBody 35)))
        (hpSc (hpAt hpBody 35)) 3 [] Value.none Value.none Value.none (Value.str (Str.ofString "law_np0031_01") 499) none (Value.ref 255) Value.none 0))
    #[]
noncomputable def hpO257 : Params → Obj := fun _ => Obj.mk (Value.type "tuple") none (Data.seq #[]) #[]
noncomputable def hpO258 : Params → Obj := fun _ => Obj.mk Value.none none (Data.fields #[]) #[]
noncomputable def hpO259 : Params → Obj := fun _ =>
  Obj.mk Value.none none
    (Data.func
      (FuncData.mk (Str.ofString "law") (Str.ofString "law") (hpAr (hpAt hpBody 36)) (FuncBody.stmts (hpBd (hpAt hpBody 36))) (hpSc (hpAt hpBody 36)) 0 []
        Value.none Value.none Value.none Value.none none Value.none Value.none 0))
    #[]
noncomputable def hpO260 : Params → Obj := fun _ =>
  Obj.mk (Value.type "code") none
    (Data.fields
      #[Value.str (Str.ofString "law") 540, Value.str (Str.ofString "law") 541, Value.str (Str.ofString "/claim/cut.py") 542, Value.int 162 0, Value.int 1 0, Value.int 0 0, Value.int 0 0,
        Value.int 3 0, Value.ref 257, Value.bool true, Value.int 181 0, Value.ref 258, Value.none, Value.none, Value.none, Value.ref 259, Value.int 543 0, Value.int 162 0,
        Value.str (Str.ofString "/claim/cut.py") 544])
    #[]
noncomputable def hpO261 : Params → Obj := fun _ =>
  Obj.mk (Value.type "function") none
    (Data.func
      (FuncData.mk (Str.ofString "law") (Str.ofString "law") (hpAr (hpAt hpBody 36)) (FuncBody.stmts (hpBd (hpAt hpBody 36))) (hpSc (hpAt hpBody 36)) 3 []
        Value.none Value.none Value.none (Value.str (Str.ofString "law_np0031_01") 499) none (Value.ref 260) Value.none 0))
    #[]
noncomputable def hpC23x3 : Params → Obj := fun P =>
  Obj.mk (Value.type "dict") none
    (Data.dict
      #[DictEntry.mk (PyData.keyHash P (Str.ofString "__name__")) (Value.str (Str.ofString "__name__") 165) (Value.str (Str.ofString "emacs.linemotion") 338),
        DictEntry.mk (PyData.keyHash P (Str.ofString "__doc__")) (Value.str (Str.ofString "__doc__") 166) Value.none,
        DictEntry.mk (PyData.keyHash P (Str.ofString "__package__")) (Value.str (Str.ofString "__package__") 167) Value.none,
        DictEntry.mk (PyData.keyHash P (Str.ofString "__loader__")) (Value.str (Str.ofString "__loader__") 168) (Value.builtin "__main__.__loader__#opaque"),
        DictEntry.mk (PyData.keyHash P (Str.ofString "__spec__")) (Value.str (Str.ofString "__spec__") 169) Value.none,
        DictEntry.mk (PyData.keyHash P (Str.ofString "__annotations__")) (Value.str (Str.ofString "__annotations__") 170) (Value.ref 6),
        DictEntry.mk (PyData.keyHash P (Str.ofString "__builtins__")) (Value.str (Str.ofString "__builtins__") 171) (Value.ref 4),
        DictEntry.mk (PyData.keyHash P (Str.ofString "__file__")) (Value.str (Str.ofString "__file__") 173) (Value.str (Str.ofString "/claim/cut.py") 172),
        DictEntry.mk (PyData.keyHash P (Str.ofString "__cached__")) (Value.str (Str.ofString "__cached__") 174) Value.none,
        DictEntry.mk (PyData.keyHash P (Str.ofString "NEWLINE")) (Value.str (Str.ofString "NEWLINE") 190) (Value.int 10 189),
        DictEntry.mk (PyData.keyHash P (Str.ofString "SPACE")) (Value.str (Str.ofString "SPACE") 192) (Value.int 32 191),
        DictEntry.mk (PyData.keyHash P (Str.ofString "TAB")) (Value.str (Str.ofString "TAB") 194) (Value.int 9 193),
        DictEntry.mk (PyData.keyHash P (Str.ofString "line_start")) (Value.str (Str.ofString "line_start") 203) (Value.ref 21),
        DictEntry.mk (PyData.keyHash P (Str.ofString "line_end")) (Value.str (Str.ofString "line_end") 212) (Value.ref 28),
        DictEntry.mk (PyData.keyHash P (Str.ofString "next_start")) (Value.str (Str.ofString "next_start") 221) (Value.ref 35),
        DictEntry.mk (PyData.keyHash P (Str.ofString "lines_target")) (Value.str (Str.ofString "lines_target") 232) (Value.ref 42),
        DictEntry.mk (PyData.keyHash P (Str.ofString "is_line_end")) (Value.str (Str.ofString "is_line_end") 240) (Value.ref 49),
        DictEntry.mk (PyData.keyHash P (Str.ofString "AT_BEGIN")) (Value.str (Str.ofString "AT_BEGIN") 244) (Value.str (Str.ofString "beginning-of-buffer") 243),
        DictEntry.mk (PyData.keyHash P (Str.ofString "AT_END")) (Value.str (Str.ofString "AT_END") 246) (Value.str (Str.ofString "end-of-buffer") 245),
        DictEntry.mk (PyData.keyHash P (Str.ofString "clamped")) (Value.str (Str.ofString "clamped") 254) (Value.ref 56),
        DictEntry.mk (PyData.keyHash P (Str.ofString "chars_target")) (Value.str (Str.ofString "chars_target") 265) (Value.ref 63),
        DictEntry.mk (PyData.keyHash P (Str.ofString "tenths_of")) (Value.str (Str.ofString "tenths_of") 274) (Value.ref 70),
        DictEntry.mk (PyData.keyHash P (Str.ofString "begin_target")) (Value.str (Str.ofString "begin_target") 284) (Value.ref 77),
        DictEntry.mk (PyData.keyHash P (Str.ofString "end_target")) (Value.str (Str.ofString "end_target") 292) (Value.ref 84),
        DictEntry.mk (PyData.keyHash P (Str.ofString "line_number_target")) (Value.str (Str.ofString "line_number_target") 300) (Value.ref 91),
        DictEntry.mk (PyData.keyHash P (Str.ofString "DELETE")) (Value.str (Str.ofString "DELETE") 304) (Value.int 127 303),
        DictEntry.mk (PyData.keyHash P (Str.ofString "width_at")) (Value.str (Str.ofString "width_at") 313) (Value.ref 98),
        DictEntry.mk (PyData.keyHash P (Str.ofString "column_at")) (Value.str (Str.ofString "column_at") 324) (Value.ref 105),
        DictEntry.mk (PyData.keyHash P (Str.ofString "place_at")) (Value.str (Str.ofString "place_at") 337) (Value.ref 112)]
      29)
    #[]
noncomputable def hpC23x12 : Params → Obj := fun _ =>
  Obj.mk Value.none none
    (Data.fields
      #[Value.int 5 0, Value.int 0 0, Value.ref 20, Value.int 10 0, Value.int 0 0, Value.ref 27, Value.int 15 0, Value.int 0 0, Value.ref 34, Value.int 18 0, Value.int 0 0, Value.ref 41,
        Value.int 33 0, Value.int 0 0, Value.ref 48, Value.int 38 0, Value.int 0 0, Value.ref 55, Value.int 40 0, Value.int 0 0, Value.ref 62, Value.int 46 0, Value.int 0 0, Value.ref 69,
        Value.int 49 0, Value.int 0 0, Value.ref 76, Value.int 55 0, Value.int 0 0, Value.ref 83, Value.int 59 0, Value.int 0 0, Value.ref 90, Value.int 63 0, Value.int 0 0, Value.ref 97,
        Value.int 69 0, Value.int 0 0, Value.ref 104, Value.int 74 0, Value.int 0 0, Value.ref 111])
    #[]
noncomputable def hpC24x3 : Params → Obj := fun P =>
  Obj.mk (Value.type "dict") none
    (Data.dict
      #[DictEntry.mk (PyData.keyHash P (Str.ofString "__name__")) (Value.str (Str.ofString "__name__") 165) (Value.str (Str.ofString "emacs.linemotion") 338),
        DictEntry.mk (PyData.keyHash P (Str.ofString "__doc__")) (Value.str (Str.ofString "__doc__") 166) Value.none,
        DictEntry.mk (PyData.keyHash P (Str.ofString "__package__")) (Value.str (Str.ofString "__package__") 167) Value.none,
        DictEntry.mk (PyData.keyHash P (Str.ofString "__loader__")) (Value.str (Str.ofString "__loader__") 168) (Value.builtin "__main__.__loader__#opaque"),
        DictEntry.mk (PyData.keyHash P (Str.ofString "__spec__")) (Value.str (Str.ofString "__spec__") 169) Value.none,
        DictEntry.mk (PyData.keyHash P (Str.ofString "__annotations__")) (Value.str (Str.ofString "__annotations__") 170) (Value.ref 6),
        DictEntry.mk (PyData.keyHash P (Str.ofString "__builtins__")) (Value.str (Str.ofString "__builtins__") 171) (Value.ref 4),
        DictEntry.mk (PyData.keyHash P (Str.ofString "__file__")) (Value.str (Str.ofString "__file__") 173) (Value.str (Str.ofString "/claim/cut.py") 172),
        DictEntry.mk (PyData.keyHash P (Str.ofString "__cached__")) (Value.str (Str.ofString "__cached__") 174) Value.none,
        DictEntry.mk (PyData.keyHash P (Str.ofString "NEWLINE")) (Value.str (Str.ofString "NEWLINE") 190) (Value.int 10 189),
        DictEntry.mk (PyData.keyHash P (Str.ofString "SPACE")) (Value.str (Str.ofString "SPACE") 192) (Value.int 32 191),
        DictEntry.mk (PyData.keyHash P (Str.ofString "TAB")) (Value.str (Str.ofString "TAB") 194) (Value.int 9 193),
        DictEntry.mk (PyData.keyHash P (Str.ofString "line_start")) (Value.str (Str.ofString "line_start") 203) (Value.ref 21),
        DictEntry.mk (PyData.keyHash P (Str.ofString "line_end")) (Value.str (Str.ofString "line_end") 212) (Value.ref 28),
        DictEntry.mk (PyData.keyHash P (Str.ofString "next_start")) (Value.str (Str.ofString "next_start") 221) (Value.ref 35),
        DictEntry.mk (PyData.keyHash P (Str.ofString "lines_target")) (Value.str (Str.ofString "lines_target") 232) (Value.ref 42),
        DictEntry.mk (PyData.keyHash P (Str.ofString "is_line_end")) (Value.str (Str.ofString "is_line_end") 240) (Value.ref 49),
        DictEntry.mk (PyData.keyHash P (Str.ofString "AT_BEGIN")) (Value.str (Str.ofString "AT_BEGIN") 244) (Value.str (Str.ofString "beginning-of-buffer") 243),
        DictEntry.mk (PyData.keyHash P (Str.ofString "AT_END")) (Value.str (Str.ofString "AT_END") 246) (Value.str (Str.ofString "end-of-buffer") 245),
        DictEntry.mk (PyData.keyHash P (Str.ofString "clamped")) (Value.str (Str.ofString "clamped") 254) (Value.ref 56),
        DictEntry.mk (PyData.keyHash P (Str.ofString "chars_target")) (Value.str (Str.ofString "chars_target") 265) (Value.ref 63),
        DictEntry.mk (PyData.keyHash P (Str.ofString "tenths_of")) (Value.str (Str.ofString "tenths_of") 274) (Value.ref 70),
        DictEntry.mk (PyData.keyHash P (Str.ofString "begin_target")) (Value.str (Str.ofString "begin_target") 284) (Value.ref 77),
        DictEntry.mk (PyData.keyHash P (Str.ofString "end_target")) (Value.str (Str.ofString "end_target") 292) (Value.ref 84),
        DictEntry.mk (PyData.keyHash P (Str.ofString "line_number_target")) (Value.str (Str.ofString "line_number_target") 300) (Value.ref 91),
        DictEntry.mk (PyData.keyHash P (Str.ofString "DELETE")) (Value.str (Str.ofString "DELETE") 304) (Value.int 127 303),
        DictEntry.mk (PyData.keyHash P (Str.ofString "width_at")) (Value.str (Str.ofString "width_at") 313) (Value.ref 98),
        DictEntry.mk (PyData.keyHash P (Str.ofString "column_at")) (Value.str (Str.ofString "column_at") 324) (Value.ref 105),
        DictEntry.mk (PyData.keyHash P (Str.ofString "place_at")) (Value.str (Str.ofString "place_at") 337) (Value.ref 112),
        DictEntry.mk (PyData.keyHash P (Str.ofString "Goal")) (Value.str (Str.ofString "Goal") 406) (Value.ref 157)]
      30)
    #[]
noncomputable def hpC24x12 : Params → Obj := fun _ =>
  Obj.mk Value.none none
    (Data.fields
      #[Value.int 5 0, Value.int 0 0, Value.ref 20, Value.int 10 0, Value.int 0 0, Value.ref 27, Value.int 15 0, Value.int 0 0, Value.ref 34, Value.int 18 0, Value.int 0 0, Value.ref 41,
        Value.int 33 0, Value.int 0 0, Value.ref 48, Value.int 38 0, Value.int 0 0, Value.ref 55, Value.int 40 0, Value.int 0 0, Value.ref 62, Value.int 46 0, Value.int 0 0, Value.ref 69,
        Value.int 49 0, Value.int 0 0, Value.ref 76, Value.int 55 0, Value.int 0 0, Value.ref 83, Value.int 59 0, Value.int 0 0, Value.ref 90, Value.int 63 0, Value.int 0 0, Value.ref 97,
        Value.int 69 0, Value.int 0 0, Value.ref 104, Value.int 74 0, Value.int 0 0, Value.ref 111, Value.int 83 0, Value.int 0 0, Value.ref 118])
    #[]
noncomputable def hpC29x3 : Params → Obj := fun P =>
  Obj.mk (Value.type "dict") none
    (Data.dict
      #[DictEntry.mk (PyData.keyHash P (Str.ofString "__name__")) (Value.str (Str.ofString "__name__") 165) (Value.str (Str.ofString "emacs.textrow") 443),
        DictEntry.mk (PyData.keyHash P (Str.ofString "__doc__")) (Value.str (Str.ofString "__doc__") 166) Value.none,
        DictEntry.mk (PyData.keyHash P (Str.ofString "__package__")) (Value.str (Str.ofString "__package__") 167) Value.none,
        DictEntry.mk (PyData.keyHash P (Str.ofString "__loader__")) (Value.str (Str.ofString "__loader__") 168) (Value.builtin "__main__.__loader__#opaque"),
        DictEntry.mk (PyData.keyHash P (Str.ofString "__spec__")) (Value.str (Str.ofString "__spec__") 169) Value.none,
        DictEntry.mk (PyData.keyHash P (Str.ofString "__annotations__")) (Value.str (Str.ofString "__annotations__") 170) (Value.ref 6),
        DictEntry.mk (PyData.keyHash P (Str.ofString "__builtins__")) (Value.str (Str.ofString "__builtins__") 171) (Value.ref 4),
        DictEntry.mk (PyData.keyHash P (Str.ofString "__file__")) (Value.str (Str.ofString "__file__") 173) (Value.str (Str.ofString "/claim/cut.py") 172),
        DictEntry.mk (PyData.keyHash P (Str.ofString "__cached__")) (Value.str (Str.ofString "__cached__") 174) Value.none,
        DictEntry.mk (PyData.keyHash P (Str.ofString "NEWLINE")) (Value.str (Str.ofString "NEWLINE") 190) (Value.int 10 189),
        DictEntry.mk (PyData.keyHash P (Str.ofString "SPACE")) (Value.str (Str.ofString "SPACE") 192) (Value.int 32 191),
        DictEntry.mk (PyData.keyHash P (Str.ofString "TAB")) (Value.str (Str.ofString "TAB") 194) (Value.int 9 193),
        DictEntry.mk (PyData.keyHash P (Str.ofString "line_start")) (Value.str (Str.ofString "line_start") 203) (Value.ref 21),
        DictEntry.mk (PyData.keyHash P (Str.ofString "line_end")) (Value.str (Str.ofString "line_end") 212) (Value.ref 28),
        DictEntry.mk (PyData.keyHash P (Str.ofString "next_start")) (Value.str (Str.ofString "next_start") 221) (Value.ref 35),
        DictEntry.mk (PyData.keyHash P (Str.ofString "lines_target")) (Value.str (Str.ofString "lines_target") 232) (Value.ref 42),
        DictEntry.mk (PyData.keyHash P (Str.ofString "is_line_end")) (Value.str (Str.ofString "is_line_end") 240) (Value.ref 49),
        DictEntry.mk (PyData.keyHash P (Str.ofString "AT_BEGIN")) (Value.str (Str.ofString "AT_BEGIN") 244) (Value.str (Str.ofString "beginning-of-buffer") 243),
        DictEntry.mk (PyData.keyHash P (Str.ofString "AT_END")) (Value.str (Str.ofString "AT_END") 246) (Value.str (Str.ofString "end-of-buffer") 245),
        DictEntry.mk (PyData.keyHash P (Str.ofString "clamped")) (Value.str (Str.ofString "clamped") 254) (Value.ref 56),
        DictEntry.mk (PyData.keyHash P (Str.ofString "chars_target")) (Value.str (Str.ofString "chars_target") 265) (Value.ref 63),
        DictEntry.mk (PyData.keyHash P (Str.ofString "tenths_of")) (Value.str (Str.ofString "tenths_of") 274) (Value.ref 70),
        DictEntry.mk (PyData.keyHash P (Str.ofString "begin_target")) (Value.str (Str.ofString "begin_target") 284) (Value.ref 77),
        DictEntry.mk (PyData.keyHash P (Str.ofString "end_target")) (Value.str (Str.ofString "end_target") 292) (Value.ref 84),
        DictEntry.mk (PyData.keyHash P (Str.ofString "line_number_target")) (Value.str (Str.ofString "line_number_target") 300) (Value.ref 91),
        DictEntry.mk (PyData.keyHash P (Str.ofString "DELETE")) (Value.str (Str.ofString "DELETE") 304) (Value.int 127 303),
        DictEntry.mk (PyData.keyHash P (Str.ofString "width_at")) (Value.str (Str.ofString "width_at") 313) (Value.ref 98),
        DictEntry.mk (PyData.keyHash P (Str.ofString "column_at")) (Value.str (Str.ofString "column_at") 324) (Value.ref 105),
        DictEntry.mk (PyData.keyHash P (Str.ofString "place_at")) (Value.str (Str.ofString "place_at") 337) (Value.ref 112),
        DictEntry.mk (PyData.keyHash P (Str.ofString "Goal")) (Value.str (Str.ofString "Goal") 406) (Value.ref 157),
        DictEntry.mk (PyData.keyHash P (Str.ofString "down_target")) (Value.str (Str.ofString "down_target") 418) (Value.ref 168),
        DictEntry.mk (PyData.keyHash P (Str.ofString "up_target")) (Value.str (Str.ofString "up_target") 429) (Value.ref 175),
        DictEntry.mk (PyData.keyHash P (Str.ofString "goal_target")) (Value.str (Str.ofString "goal_target") 442) (Value.ref 182),
        DictEntry.mk (PyData.keyHash P (Str.ofString "TextRow")) (Value.str (Str.ofString "TextRow") 498) (Value.ref 221)]
      34)
    #[]
noncomputable def hpC29x12 : Params → Obj := fun _ =>
  Obj.mk Value.none none
    (Data.fields
      #[Value.int 5 0, Value.int 0 0, Value.ref 20, Value.int 10 0, Value.int 0 0, Value.ref 27, Value.int 15 0, Value.int 0 0, Value.ref 34, Value.int 18 0, Value.int 0 0, Value.ref 41,
        Value.int 33 0, Value.int 0 0, Value.ref 48, Value.int 38 0, Value.int 0 0, Value.ref 55, Value.int 40 0, Value.int 0 0, Value.ref 62, Value.int 46 0, Value.int 0 0, Value.ref 69,
        Value.int 49 0, Value.int 0 0, Value.ref 76, Value.int 55 0, Value.int 0 0, Value.ref 83, Value.int 59 0, Value.int 0 0, Value.ref 90, Value.int 63 0, Value.int 0 0, Value.ref 97,
        Value.int 69 0, Value.int 0 0, Value.ref 104, Value.int 74 0, Value.int 0 0, Value.ref 111, Value.int 83 0, Value.int 0 0, Value.ref 118, Value.int 107 0, Value.int 0 0, Value.ref 167,
        Value.int 115 0, Value.int 0 0, Value.ref 174, Value.int 118 0, Value.int 0 0, Value.ref 181, Value.int 122 0, Value.int 0 0, Value.ref 188])
    #[]
noncomputable def hpC36x3 : Params → Obj := fun P =>
  Obj.mk (Value.type "dict") none
    (Data.dict
      #[DictEntry.mk (PyData.keyHash P (Str.ofString "__name__")) (Value.str (Str.ofString "__name__") 165) (Value.str (Str.ofString "law_np0031_01") 499),
        DictEntry.mk (PyData.keyHash P (Str.ofString "__doc__")) (Value.str (Str.ofString "__doc__") 166) Value.none,
        DictEntry.mk (PyData.keyHash P (Str.ofString "__package__")) (Value.str (Str.ofString "__package__") 167) Value.none,
        DictEntry.mk (PyData.keyHash P (Str.ofString "__loader__")) (Value.str (Str.ofString "__loader__") 168) (Value.builtin "__main__.__loader__#opaque"),
        DictEntry.mk (PyData.keyHash P (Str.ofString "__spec__")) (Value.str (Str.ofString "__spec__") 169) Value.none,
        DictEntry.mk (PyData.keyHash P (Str.ofString "__annotations__")) (Value.str (Str.ofString "__annotations__") 170) (Value.ref 6),
        DictEntry.mk (PyData.keyHash P (Str.ofString "__builtins__")) (Value.str (Str.ofString "__builtins__") 171) (Value.ref 4),
        DictEntry.mk (PyData.keyHash P (Str.ofString "__file__")) (Value.str (Str.ofString "__file__") 173) (Value.str (Str.ofString "/claim/cut.py") 172),
        DictEntry.mk (PyData.keyHash P (Str.ofString "__cached__")) (Value.str (Str.ofString "__cached__") 174) Value.none,
        DictEntry.mk (PyData.keyHash P (Str.ofString "NEWLINE")) (Value.str (Str.ofString "NEWLINE") 190) (Value.int 10 189),
        DictEntry.mk (PyData.keyHash P (Str.ofString "SPACE")) (Value.str (Str.ofString "SPACE") 192) (Value.int 32 191),
        DictEntry.mk (PyData.keyHash P (Str.ofString "TAB")) (Value.str (Str.ofString "TAB") 194) (Value.int 9 193),
        DictEntry.mk (PyData.keyHash P (Str.ofString "line_start")) (Value.str (Str.ofString "line_start") 203) (Value.ref 21),
        DictEntry.mk (PyData.keyHash P (Str.ofString "line_end")) (Value.str (Str.ofString "line_end") 212) (Value.ref 28),
        DictEntry.mk (PyData.keyHash P (Str.ofString "next_start")) (Value.str (Str.ofString "next_start") 221) (Value.ref 35),
        DictEntry.mk (PyData.keyHash P (Str.ofString "lines_target")) (Value.str (Str.ofString "lines_target") 232) (Value.ref 42),
        DictEntry.mk (PyData.keyHash P (Str.ofString "is_line_end")) (Value.str (Str.ofString "is_line_end") 240) (Value.ref 49),
        DictEntry.mk (PyData.keyHash P (Str.ofString "AT_BEGIN")) (Value.str (Str.ofString "AT_BEGIN") 244) (Value.str (Str.ofString "beginning-of-buffer") 243),
        DictEntry.mk (PyData.keyHash P (Str.ofString "AT_END")) (Value.str (Str.ofString "AT_END") 246) (Value.str (Str.ofString "end-of-buffer") 245),
        DictEntry.mk (PyData.keyHash P (Str.ofString "clamped")) (Value.str (Str.ofString "clamped") 254) (Value.ref 56),
        DictEntry.mk (PyData.keyHash P (Str.ofString "chars_target")) (Value.str (Str.ofString "chars_target") 265) (Value.ref 63),
        DictEntry.mk (PyData.keyHash P (Str.ofString "tenths_of")) (Value.str (Str.ofString "tenths_of") 274) (Value.ref 70),
        DictEntry.mk (PyData.keyHash P (Str.ofString "begin_target")) (Value.str (Str.ofString "begin_target") 284) (Value.ref 77),
        DictEntry.mk (PyData.keyHash P (Str.ofString "end_target")) (Value.str (Str.ofString "end_target") 292) (Value.ref 84),
        DictEntry.mk (PyData.keyHash P (Str.ofString "line_number_target")) (Value.str (Str.ofString "line_number_target") 300) (Value.ref 91),
        DictEntry.mk (PyData.keyHash P (Str.ofString "DELETE")) (Value.str (Str.ofString "DELETE") 304) (Value.int 127 303),
        DictEntry.mk (PyData.keyHash P (Str.ofString "width_at")) (Value.str (Str.ofString "width_at") 313) (Value.ref 98),
        DictEntry.mk (PyData.keyHash P (Str.ofString "column_at")) (Value.str (Str.ofString "column_at") 324) (Value.ref 105),
        DictEntry.mk (PyData.keyHash P (Str.ofString "place_at")) (Value.str (Str.ofString "place_at") 337) (Value.ref 112),
        DictEntry.mk (PyData.keyHash P (Str.ofString "Goal")) (Value.str (Str.ofString "Goal") 406) (Value.ref 157),
        DictEntry.mk (PyData.keyHash P (Str.ofString "down_target")) (Value.str (Str.ofString "down_target") 418) (Value.ref 168),
        DictEntry.mk (PyData.keyHash P (Str.ofString "up_target")) (Value.str (Str.ofString "up_target") 429) (Value.ref 175),
        DictEntry.mk (PyData.keyHash P (Str.ofString "goal_target")) (Value.str (Str.ofString "goal_target") 442) (Value.ref 182),
        DictEntry.mk (PyData.keyHash P (Str.ofString "TextRow")) (Value.str (Str.ofString "TextRow") 498) (Value.ref 221),
        DictEntry.mk (PyData.keyHash P (Str.ofString "_law_draw")) (Value.str (Str.ofString "_law_draw") 509) (Value.ref 232),
        DictEntry.mk (PyData.keyHash P (Str.ofString "_law_deck_of")) (Value.str (Str.ofString "_law_deck_of") 515) (Value.ref 237),
        DictEntry.mk (PyData.keyHash P (Str.ofString "_law_one")) (Value.str (Str.ofString "_law_one") 523) (Value.ref 244),
        DictEntry.mk (PyData.keyHash P (Str.ofString "_law_some_codes")) (Value.str (Str.ofString "_law_some_codes") 529) (Value.ref 249),
        DictEntry.mk (PyData.keyHash P (Str.ofString "_law_columns")) (Value.str (Str.ofString "_law_columns") 539) (Value.ref 256),
        DictEntry.mk (PyData.keyHash P (Str.ofString "law")) (Value.str (Str.ofString "law") 545) (Value.ref 261)]
      40)
    #[]
noncomputable def hpC36x12 : Params → Obj := fun _ =>
  Obj.mk Value.none none
    (Data.fields
      #[Value.int 5 0, Value.int 0 0, Value.ref 20, Value.int 10 0, Value.int 0 0, Value.ref 27, Value.int 15 0, Value.int 0 0, Value.ref 34, Value.int 18 0, Value.int 0 0, Value.ref 41,
        Value.int 33 0, Value.int 0 0, Value.ref 48, Value.int 38 0, Value.int 0 0, Value.ref 55, Value.int 40 0, Value.int 0 0, Value.ref 62, Value.int 46 0, Value.int 0 0, Value.ref 69,
        Value.int 49 0, Value.int 0 0, Value.ref 76, Value.int 55 0, Value.int 0 0, Value.ref 83, Value.int 59 0, Value.int 0 0, Value.ref 90, Value.int 63 0, Value.int 0 0, Value.ref 97,
        Value.int 69 0, Value.int 0 0, Value.ref 104, Value.int 74 0, Value.int 0 0, Value.ref 111, Value.int 83 0, Value.int 0 0, Value.ref 118, Value.int 107 0, Value.int 0 0, Value.ref 167,
        Value.int 115 0, Value.int 0 0, Value.ref 174, Value.int 118 0, Value.int 0 0, Value.ref 181, Value.int 122 0, Value.int 0 0, Value.ref 188, Value.int 139 0, Value.int 0 0, Value.ref 231,
        Value.int 148 0, Value.int 0 0, Value.ref 236, Value.int 153 0, Value.int 0 0, Value.ref 243, Value.int 155 0, Value.int 0 0, Value.ref 248, Value.int 157 0, Value.int 0 0, Value.ref 255,
        Value.int 162 0, Value.int 0 0, Value.ref 260])
    #[]
noncomputable def hpT23 (P : Params) : BT := (.node (boot_o_0 P) (.node (boot_o_1 P) (.node (hpC23x3 P) (.node (boot_o_7 P) (.node (hpO15 P) (.node (hpO31 P) (.node (hpO63 P) .nil .nil) (.node (hpO95 P) .nil .nil)) (.node (hpO47 P) (.node (hpO79 P) .nil .nil) (.node (hpO111 P) .nil .nil))) (.node (hpO23 P) (.node (hpO39 P) (.node (hpO71 P) .nil .nil) (.node (hpO103 P) .nil .nil)) (.node (hpO55 P) (.node (hpO87 P) .nil .nil) .nil))) (.node hpO11 (.node (hpO19 P) (.node (hpO35 P) (.node (hpO67 P) .nil .nil) (.node (hpO99 P) .nil .nil)) (.node (hpO51 P) (.node (hpO83 P) .nil .nil) .nil)) (.node (hpO27 P) (.node (hpO43 P) (.node (hpO75 P) .nil .nil) (.node (hpO107 P) .nil .nil)) (.node (hpO59 P) (.node (hpO91 P) .nil .nil) .nil)))) (.node (boot_o_5 P) (.node (boot_o_9 P) (.node (hpO17 P) (.node (hpO33 P) (.node (hpO65 P) .nil .nil) (.node (hpO97 P) .nil .nil)) (.node (hpO49 P) (.node (hpO81 P) .nil .nil) .nil)) (.node (hpO25 P) (.node (hpO41 P) (.node (hpO73 P) .nil .nil) (.node (hpO105 P) .nil .nil)) (.node (hpO57 P) (.node (hpO89 P) .nil .nil) .nil))) (.node hpO13 (.node (hpO21 P) (.node (hpO37 P) (.node (hpO69 P) .nil .nil) (.node (hpO101 P) .nil .nil)) (.node (hpO53 P) (.node (hpO85 P) .nil .nil) .nil)) (.node (hpO29 P) (.node (hpO45 P) (.node (hpO77 P) .nil .nil) (.node (hpO109 P) .nil .nil)) (.node (hpO61 P) (.node (hpO93 P) .nil .nil) .nil))))) (.node (boot_o_2 P) (.node (boot_o_4 P) (.node (boot_o_8 P) (.node (hpO16 P) (.node (hpO32 P) (.node (hpO64 P) .nil .nil) (.node (hpO96 P) .nil .nil)) (.node (hpO48 P) (.node (hpO80 P) .nil .nil) (.node (hpO112 P) .nil .nil))) (.node (hpO24 P) (.node (hpO40 P) (.node (hpO72 P) .nil .nil) (.node (hpO104 P) .nil .nil)) (.node (hpO56 P) (.node (hpO88 P) .nil .nil) .nil))) (.node (hpC23x12 P) (.node (hpO20 P) (.node (hpO36 P) (.node (hpO68 P) .nil .nil) (.node (hpO100 P) .nil .nil)) (.node (hpO52 P) (.node (hpO84 P) .nil .nil) .nil)) (.node (hpO28 P) (.node (hpO44 P) (.node (hpO76 P) .nil .nil) (.node (hpO108 P) .nil .nil)) (.node (hpO60 P) (.node (hpO92 P) .nil .nil) .nil)))) (.node (boot_o_6 P) (.node (boot_o_10 P) (.node (hpO18 P) (.node (hpO34 P) (.node (hpO66 P) .nil .nil) (.node (hpO98 P) .nil .nil)) (.node (hpO50 P) (.node (hpO82 P) .nil .nil) .nil)) (.node (hpO26 P) (.node (hpO42 P) (.node (hpO74 P) .nil .nil) (.node (hpO106 P) .nil .nil)) (.node (hpO58 P) (.node (hpO90 P) .nil .nil) .nil))) (.node hpO14 (.node (hpO22 P) (.node (hpO38 P) (.node (hpO70 P) .nil .nil) (.node (hpO102 P) .nil .nil)) (.node (hpO54 P) (.node (hpO86 P) .nil .nil) .nil)) (.node (hpO30 P) (.node (hpO46 P) (.node (hpO78 P) .nil .nil) (.node (hpO110 P) .nil .nil)) (.node (hpO62 P) (.node (hpO94 P) .nil .nil) .nil))))))
noncomputable def hpZ23 (w : World) (os : OsState) : SharedT := { tree := hpT23 w.params, n := 113, life := {}, gens := (#[]), drawn := {}, toks := 340, os := os }
noncomputable def hpT24 (P : Params) : BT := (.node (boot_o_0 P) (.node (boot_o_1 P) (.node (hpC24x3 P) (.node (boot_o_7 P) (.node (hpO15 P) (.node (hpO31 P) (.node (hpO63 P) (.node (hpO127 P) .nil .nil) .nil) (.node (hpO95 P) (.node (hpO159 P) .nil .nil) .nil)) (.node (hpO47 P) (.node (hpO79 P) (.node (hpO143 P) .nil .nil) .nil) (.node (hpO111 P) .nil .nil))) (.node (hpO23 P) (.node (hpO39 P) (.node (hpO71 P) (.node (hpO135 P) .nil .nil) .nil) (.node (hpO103 P) .nil .nil)) (.node (hpO55 P) (.node (hpO87 P) (.node (hpO151 P) .nil .nil) .nil) (.node (hpO119 P) .nil .nil)))) (.node hpO11 (.node (hpO19 P) (.node (hpO35 P) (.node (hpO67 P) (.node (hpO131 P) .nil .nil) .nil) (.node (hpO99 P) .nil .nil)) (.node (hpO51 P) (.node (hpO83 P) (.node (hpO147 P) .nil .nil) .nil) (.node (hpO115 P) .nil .nil))) (.node (hpO27 P) (.node (hpO43 P) (.node (hpO75 P) (.node (hpO139 P) .nil .nil) .nil) (.node (hpO107 P) .nil .nil)) (.node (hpO59 P) (.node (hpO91 P) (.node (hpO155 P) .nil .nil) .nil) (.node (hpO123 P) .nil .nil))))) (.node (boot_o_5 P) (.node (boot_o_9 P) (.node (hpO17 P) (.node (hpO33 P) (.node (hpO65 P) (.node (hpO129 P) .nil .nil) .nil) (.node (hpO97 P) (.node (hpO161 P) .nil .nil) .nil)) (.node (hpO49 P) (.node (hpO81 P) (.node (hpO145 P) .nil .nil) .nil) (.node (hpO113 P) .nil .nil))) (.node (hpO25 P) (.node (hpO41 P) (.node (hpO73 P) (.node (hpO137 P) .nil .nil) .nil) (.node (hpO105 P) .nil .nil)) (.node (hpO57 P) (.node (hpO89 P) (.node (hpO153 P) .nil .nil) .nil) (.node (hpO121 P) .nil .nil)))) (.node hpO13 (.node (hpO21 P) (.node (hpO37 P) (.node (hpO69 P) (.node (hpO133 P) .nil .nil) .nil) (.node (hpO101 P) .nil .nil)) (.node (hpO53 P) (.node (hpO85 P) (.node (hpO149 P) .nil .nil) .nil) (.node (hpO117 P) .nil .nil))) (.node (hpO29 P) (.node (hpO45 P) (.node (hpO77 P) (.node (hpO141 P) .nil .nil) .nil) (.node (hpO109 P) .nil .nil)) (.node (hpO61 P) (.node (hpO93 P) (.node (hpO157 P) .nil .nil) .nil) (.node (hpO125 P) .nil .nil)))))) (.node (boot_o_2 P) (.node (boot_o_4 P) (.node (boot_o_8 P) (.node (hpO16 P) (.node (hpO32 P) (.node (hpO64 P) (.node (hpO128 P) .nil .nil) .nil) (.node (hpO96 P) (.node (hpO160 P) .nil .nil) .nil)) (.node (hpO48 P) (.node (hpO80 P) (.node (hpO144 P) .nil .nil) .nil) (.node (hpO112 P) .nil .nil))) (.node (hpO24 P) (.node (hpO40 P) (.node (hpO72 P) (.node (hpO136 P) .nil .nil) .nil) (.node (hpO104 P) .nil .nil)) (.node (hpO56 P) (.node (hpO88 P) (.node (hpO152 P) .nil .nil) .nil) (.node (hpO120 P) .nil .nil)))) (.node (hpC24x12 P) (.node (hpO20 P) (.node (hpO36 P) (.node (hpO68 P) (.node (hpO132 P) .nil .nil) .nil) (.node (hpO100 P) .nil .nil)) (.node (hpO52 P) (.node (hpO84 P) (.node (hpO148 P) .nil .nil) .nil) (.node (hpO116 P) .nil .nil))) (.node (hpO28 P) (.node (hpO44 P) (.node (hpO76 P) (.node (hpO140 P) .nil .nil) .nil) (.node (hpO108 P) .nil .nil)) (.node (hpO60 P) (.node (hpO92 P) (.node (hpO156 P) .nil .nil) .nil) (.node (hpO124 P) .nil .nil))))) (.node (boot_o_6 P) (.node (boot_o_10 P) (.node (hpO18 P) (.node (hpO34 P) (.node (hpO66 P) (.node (hpO130 P) .nil .nil) .nil) (.node (hpO98 P) .nil .nil)) (.node (hpO50 P) (.node (hpO82 P) (.node (hpO146 P) .nil .nil) .nil) (.node (hpO114 P) .nil .nil))) (.node (hpO26 P) (.node (hpO42 P) (.node (hpO74 P) (.node (hpO138 P) .nil .nil) .nil) (.node (hpO106 P) .nil .nil)) (.node (hpO58 P) (.node (hpO90 P) (.node (hpO154 P) .nil .nil) .nil) (.node (hpO122 P) .nil .nil)))) (.node hpO14 (.node (hpO22 P) (.node (hpO38 P) (.node (hpO70 P) (.node (hpO134 P) .nil .nil) .nil) (.node (hpO102 P) .nil .nil)) (.node (hpO54 P) (.node (hpO86 P) (.node (hpO150 P) .nil .nil) .nil) (.node (hpO118 P) .nil .nil))) (.node (hpO30 P) (.node (hpO46 P) (.node (hpO78 P) (.node (hpO142 P) .nil .nil) .nil) (.node (hpO110 P) .nil .nil)) (.node (hpO62 P) (.node (hpO94 P) (.node (hpO158 P) .nil .nil) .nil) (.node (hpO126 P) .nil .nil)))))))
noncomputable def hpZ24 (w : World) (os : OsState) : SharedT := { tree := hpT24 w.params, n := 162, life := {}, gens := (#[]), drawn := {}, toks := 407, os := os }
noncomputable def hpT29 (P : Params) : BT := (.node (boot_o_0 P) (.node (boot_o_1 P) (.node (hpC29x3 P) (.node (boot_o_7 P) (.node (hpO15 P) (.node (hpO31 P) (.node (hpO63 P) (.node (hpO127 P) .nil .nil) (.node (hpO191 P) .nil .nil)) (.node (hpO95 P) (.node (hpO159 P) .nil .nil) (.node (hpO223 P) .nil .nil))) (.node (hpO47 P) (.node (hpO79 P) (.node (hpO143 P) .nil .nil) (.node (hpO207 P) .nil .nil)) (.node (hpO111 P) (.node (hpO175 P) .nil .nil) .nil))) (.node (hpO23 P) (.node (hpO39 P) (.node (hpO71 P) (.node (hpO135 P) .nil .nil) (.node (hpO199 P) .nil .nil)) (.node (hpO103 P) (.node (hpO167 P) .nil .nil) .nil)) (.node (hpO55 P) (.node (hpO87 P) (.node (hpO151 P) .nil .nil) (.node (hpO215 P) .nil .nil)) (.node (hpO119 P) (.node (hpO183 P) .nil .nil) .nil)))) (.node hpO11 (.node (hpO19 P) (.node (hpO35 P) (.node (hpO67 P) (.node (hpO131 P) .nil .nil) (.node (hpO195 P) .nil .nil)) (.node (hpO99 P) (.node (hpO163 P) .nil .nil) .nil)) (.node (hpO51 P) (.node (hpO83 P) (.node (hpO147 P) .nil .nil) (.node (hpO211 P) .nil .nil)) (.node (hpO115 P) (.node (hpO179 P) .nil .nil) .nil))) (.node (hpO27 P) (.node (hpO43 P) (.node (hpO75 P) (.node (hpO139 P) .nil .nil) (.node (hpO203 P) .nil .nil)) (.node (hpO107 P) (.node (hpO171 P) .nil .nil) .nil)) (.node (hpO59 P) (.node (hpO91 P) (.node (hpO155 P) .nil .nil) (.node (hpO219 P) .nil .nil)) (.node (hpO123 P) (.node (hpO187 P) .nil .nil) .nil))))) (.node (boot_o_5 P) (.node (boot_o_9 P) (.node (hpO17 P) (.node (hpO33 P) (.node (hpO65 P) (.node (hpO129 P) .nil .nil) (.node (hpO193 P) .nil .nil)) (.node (hpO97 P) (.node (hpO161 P) .nil .nil) (.node (hpO225 P) .nil .nil))) (.node (hpO49 P) (.node (hpO81 P) (.node (hpO145 P) .nil .nil) (.node (hpO209 P) .nil .nil)) (.node (hpO113 P) (.node (hpO177 P) .nil .nil) .nil))) (.node (hpO25 P) (.node (hpO41 P) (.node (hpO73 P) (.node (hpO137 P) .nil .nil) (.node (hpO201 P) .nil .nil)) (.node (hpO105 P) (.node (hpO169 P) .nil .nil) .nil)) (.node (hpO57 P) (.node (hpO89 P) (.node (hpO153 P) .nil .nil) (.node (hpO217 P) .nil .nil)) (.node (hpO121 P) (.node (hpO185 P) .nil .nil) .nil)))) (.node hpO13 (.node (hpO21 P) (.node (hpO37 P) (.node (hpO69 P) (.node (hpO133 P) .nil .nil) (.node (hpO197 P) .nil .nil)) (.node (hpO101 P) (.node (hpO165 P) .nil .nil) .nil)) (.node (hpO53 P) (.node (hpO85 P) (.node (hpO149 P) .nil .nil) (.node (hpO213 P) .nil .nil)) (.node (hpO117 P) (.node (hpO181 P) .nil .nil) .nil))) (.node (hpO29 P) (.node (hpO45 P) (.node (hpO77 P) (.node (hpO141 P) .nil .nil) (.node (hpO205 P) .nil .nil)) (.node (hpO109 P) (.node (hpO173 P) .nil .nil) .nil)) (.node (hpO61 P) (.node (hpO93 P) (.node (hpO157 P) .nil .nil) (.node (hpO221 P) .nil .nil)) (.node (hpO125 P) (.node (hpO189 P) .nil .nil) .nil)))))) (.node (boot_o_2 P) (.node (boot_o_4 P) (.node (boot_o_8 P) (.node (hpO16 P) (.node (hpO32 P) (.node (hpO64 P) (.node (hpO128 P) .nil .nil) (.node (hpO192 P) .nil .nil)) (.node (hpO96 P) (.node (hpO160 P) .nil .nil) (.node (hpO224 P) .nil .nil))) (.node (hpO48 P) (.node (hpO80 P) (.node (hpO144 P) .nil .nil) (.node (hpO208 P) .nil .nil)) (.node (hpO112 P) (.node (hpO176 P) .nil .nil) .nil))) (.node (hpO24 P) (.node (hpO40 P) (.node (hpO72 P) (.node (hpO136 P) .nil .nil) (.node (hpO200 P) .nil .nil)) (.node (hpO104 P) (.node (hpO168 P) .nil .nil) .nil)) (.node (hpO56 P) (.node (hpO88 P) (.node (hpO152 P) .nil .nil) (.node (hpO216 P) .nil .nil)) (.node (hpO120 P) (.node (hpO184 P) .nil .nil) .nil)))) (.node (hpC29x12 P) (.node (hpO20 P) (.node (hpO36 P) (.node (hpO68 P) (.node (hpO132 P) .nil .nil) (.node (hpO196 P) .nil .nil)) (.node (hpO100 P) (.node (hpO164 P) .nil .nil) .nil)) (.node (hpO52 P) (.node (hpO84 P) (.node (hpO148 P) .nil .nil) (.node (hpO212 P) .nil .nil)) (.node (hpO116 P) (.node (hpO180 P) .nil .nil) .nil))) (.node (hpO28 P) (.node (hpO44 P) (.node (hpO76 P) (.node (hpO140 P) .nil .nil) (.node (hpO204 P) .nil .nil)) (.node (hpO108 P) (.node (hpO172 P) .nil .nil) .nil)) (.node (hpO60 P) (.node (hpO92 P) (.node (hpO156 P) .nil .nil) (.node (hpO220 P) .nil .nil)) (.node (hpO124 P) (.node (hpO188 P) .nil .nil) .nil))))) (.node (boot_o_6 P) (.node (boot_o_10 P) (.node (hpO18 P) (.node (hpO34 P) (.node (hpO66 P) (.node (hpO130 P) .nil .nil) (.node (hpO194 P) .nil .nil)) (.node (hpO98 P) (.node (hpO162 P) .nil .nil) .nil)) (.node (hpO50 P) (.node (hpO82 P) (.node (hpO146 P) .nil .nil) (.node (hpO210 P) .nil .nil)) (.node (hpO114 P) (.node (hpO178 P) .nil .nil) .nil))) (.node (hpO26 P) (.node (hpO42 P) (.node (hpO74 P) (.node (hpO138 P) .nil .nil) (.node (hpO202 P) .nil .nil)) (.node (hpO106 P) (.node (hpO170 P) .nil .nil) .nil)) (.node (hpO58 P) (.node (hpO90 P) (.node (hpO154 P) .nil .nil) (.node (hpO218 P) .nil .nil)) (.node (hpO122 P) (.node (hpO186 P) .nil .nil) .nil)))) (.node hpO14 (.node (hpO22 P) (.node (hpO38 P) (.node (hpO70 P) (.node (hpO134 P) .nil .nil) (.node (hpO198 P) .nil .nil)) (.node (hpO102 P) (.node (hpO166 P) .nil .nil) .nil)) (.node (hpO54 P) (.node (hpO86 P) (.node (hpO150 P) .nil .nil) (.node (hpO214 P) .nil .nil)) (.node (hpO118 P) (.node (hpO182 P) .nil .nil) .nil))) (.node (hpO30 P) (.node (hpO46 P) (.node (hpO78 P) (.node (hpO142 P) .nil .nil) (.node (hpO206 P) .nil .nil)) (.node (hpO110 P) (.node (hpO174 P) .nil .nil) .nil)) (.node (hpO62 P) (.node (hpO94 P) (.node (hpO158 P) .nil .nil) (.node (hpO222 P) .nil .nil)) (.node (hpO126 P) (.node (hpO190 P) .nil .nil) .nil)))))))
noncomputable def hpZ29 (w : World) (os : OsState) : SharedT := { tree := hpT29 w.params, n := 226, life := {}, gens := (#[]), drawn := {}, toks := 499, os := os }
noncomputable def hpT36 (P : Params) : BT := (.node (boot_o_0 P) (.node (boot_o_1 P) (.node (hpC36x3 P) (.node (boot_o_7 P) (.node (hpO15 P) (.node (hpO31 P) (.node (hpO63 P) (.node (hpO127 P) (.node (hpO255 P) .nil .nil) .nil) (.node (hpO191 P) .nil .nil)) (.node (hpO95 P) (.node (hpO159 P) .nil .nil) (.node (hpO223 P) .nil .nil))) (.node (hpO47 P) (.node (hpO79 P) (.node (hpO143 P) .nil .nil) (.node (hpO207 P) .nil .nil)) (.node (hpO111 P) (.node (hpO175 P) .nil .nil) (.node (hpO239 P) .nil .nil)))) (.node (hpO23 P) (.node (hpO39 P) (.node (hpO71 P) (.node (hpO135 P) .nil .nil) (.node (hpO199 P) .nil .nil)) (.node (hpO103 P) (.node (hpO167 P) .nil .nil) (.node (hpO231 P) .nil .nil))) (.node (hpO55 P) (.node (hpO87 P) (.node (hpO151 P) .nil .nil) (.node (hpO215 P) .nil .nil)) (.node (hpO119 P) (.node (hpO183 P) .nil .nil) (.node (hpO247 P) .nil .nil))))) (.node hpO11 (.node (hpO19 P) (.node (hpO35 P) (.node (hpO67 P) (.node (hpO131 P) (.node (hpO259 P) .nil .nil) .nil) (.node (hpO195 P) .nil .nil)) (.node (hpO99 P) (.node (hpO163 P) .nil .nil) (.node (hpO227 P) .nil .nil))) (.node (hpO51 P) (.node (hpO83 P) (.node (hpO147 P) .nil .nil) (.node (hpO211 P) .nil .nil)) (.node (hpO115 P) (.node (hpO179 P) .nil .nil) (.node (hpO243 P) .nil .nil)))) (.node (hpO27 P) (.node (hpO43 P) (.node (hpO75 P) (.node (hpO139 P) .nil .nil) (.node (hpO203 P) .nil .nil)) (.node (hpO107 P) (.node (hpO171 P) .nil .nil) (.node (hpO235 P) .nil .nil))) (.node (hpO59 P) (.node (hpO91 P) (.node (hpO155 P) .nil .nil) (.node (hpO219 P) .nil .nil)) (.node (hpO123 P) (.node (hpO187 P) .nil .nil) (.node (hpO251 P) .nil .nil)))))) (.node (boot_o_5 P) (.node (boot_o_9 P) (.node (hpO17 P) (.node (hpO33 P) (.node (hpO65 P) (.node (hpO129 P) (.node (hpO257 P) .nil .nil) .nil) (.node (hpO193 P) .nil .nil)) (.node (hpO97 P) (.node (hpO161 P) .nil .nil) (.node (hpO225 P) .nil .nil))) (.node (hpO49 P) (.node (hpO81 P) (.node (hpO145 P) .nil .nil) (.node (hpO209 P) .nil .nil)) (.node (hpO113 P) (.node (hpO177 P) .nil .nil) (.node (hpO241 P) .nil .nil)))) (.node (hpO25 P) (.node (hpO41 P) (.node (hpO73 P) (.node (hpO137 P) .nil .nil) (.node (hpO201 P) .nil .nil)) (.node (hpO105 P) (.node (hpO169 P) .nil .nil) (.node (hpO233 P) .nil .nil))) (.node (hpO57 P) (.node (hpO89 P) (.node (hpO153 P) .nil .nil) (.node (hpO217 P) .nil .nil)) (.node (hpO121 P) (.node (hpO185 P) .nil .nil) (.node (hpO249 P) .nil .nil))))) (.node hpO13 (.node (hpO21 P) (.node (hpO37 P) (.node (hpO69 P) (.node (hpO133 P) (.node (hpO261 P) .nil .nil) .nil) (.node (hpO197 P) .nil .nil)) (.node (hpO101 P) (.node (hpO165 P) .nil .nil) (.node (hpO229 P) .nil .nil))) (.node (hpO53 P) (.node (hpO85 P) (.node (hpO149 P) .nil .nil) (.node (hpO213 P) .nil .nil)) (.node (hpO117 P) (.node (hpO181 P) .nil .nil) (.node (hpO245 P) .nil .nil)))) (.node (hpO29 P) (.node (hpO45 P) (.node (hpO77 P) (.node (hpO141 P) .nil .nil) (.node (hpO205 P) .nil .nil)) (.node (hpO109 P) (.node (hpO173 P) .nil .nil) (.node (hpO237 P) .nil .nil))) (.node (hpO61 P) (.node (hpO93 P) (.node (hpO157 P) .nil .nil) (.node (hpO221 P) .nil .nil)) (.node (hpO125 P) (.node (hpO189 P) .nil .nil) (.node (hpO253 P) .nil .nil))))))) (.node (boot_o_2 P) (.node (boot_o_4 P) (.node (boot_o_8 P) (.node (hpO16 P) (.node (hpO32 P) (.node (hpO64 P) (.node (hpO128 P) (.node (hpO256 P) .nil .nil) .nil) (.node (hpO192 P) .nil .nil)) (.node (hpO96 P) (.node (hpO160 P) .nil .nil) (.node (hpO224 P) .nil .nil))) (.node (hpO48 P) (.node (hpO80 P) (.node (hpO144 P) .nil .nil) (.node (hpO208 P) .nil .nil)) (.node (hpO112 P) (.node (hpO176 P) .nil .nil) (.node (hpO240 P) .nil .nil)))) (.node (hpO24 P) (.node (hpO40 P) (.node (hpO72 P) (.node (hpO136 P) .nil .nil) (.node (hpO200 P) .nil .nil)) (.node (hpO104 P) (.node (hpO168 P) .nil .nil) (.node (hpO232 P) .nil .nil))) (.node (hpO56 P) (.node (hpO88 P) (.node (hpO152 P) .nil .nil) (.node (hpO216 P) .nil .nil)) (.node (hpO120 P) (.node (hpO184 P) .nil .nil) (.node (hpO248 P) .nil .nil))))) (.node (hpC36x12 P) (.node (hpO20 P) (.node (hpO36 P) (.node (hpO68 P) (.node (hpO132 P) (.node (hpO260 P) .nil .nil) .nil) (.node (hpO196 P) .nil .nil)) (.node (hpO100 P) (.node (hpO164 P) .nil .nil) (.node (hpO228 P) .nil .nil))) (.node (hpO52 P) (.node (hpO84 P) (.node (hpO148 P) .nil .nil) (.node (hpO212 P) .nil .nil)) (.node (hpO116 P) (.node (hpO180 P) .nil .nil) (.node (hpO244 P) .nil .nil)))) (.node (hpO28 P) (.node (hpO44 P) (.node (hpO76 P) (.node (hpO140 P) .nil .nil) (.node (hpO204 P) .nil .nil)) (.node (hpO108 P) (.node (hpO172 P) .nil .nil) (.node (hpO236 P) .nil .nil))) (.node (hpO60 P) (.node (hpO92 P) (.node (hpO156 P) .nil .nil) (.node (hpO220 P) .nil .nil)) (.node (hpO124 P) (.node (hpO188 P) .nil .nil) (.node (hpO252 P) .nil .nil)))))) (.node (boot_o_6 P) (.node (boot_o_10 P) (.node (hpO18 P) (.node (hpO34 P) (.node (hpO66 P) (.node (hpO130 P) (.node (hpO258 P) .nil .nil) .nil) (.node (hpO194 P) .nil .nil)) (.node (hpO98 P) (.node (hpO162 P) .nil .nil) (.node (hpO226 P) .nil .nil))) (.node (hpO50 P) (.node (hpO82 P) (.node (hpO146 P) .nil .nil) (.node (hpO210 P) .nil .nil)) (.node (hpO114 P) (.node (hpO178 P) .nil .nil) (.node (hpO242 P) .nil .nil)))) (.node (hpO26 P) (.node (hpO42 P) (.node (hpO74 P) (.node (hpO138 P) .nil .nil) (.node (hpO202 P) .nil .nil)) (.node (hpO106 P) (.node (hpO170 P) .nil .nil) (.node (hpO234 P) .nil .nil))) (.node (hpO58 P) (.node (hpO90 P) (.node (hpO154 P) .nil .nil) (.node (hpO218 P) .nil .nil)) (.node (hpO122 P) (.node (hpO186 P) .nil .nil) (.node (hpO250 P) .nil .nil))))) (.node hpO14 (.node (hpO22 P) (.node (hpO38 P) (.node (hpO70 P) (.node (hpO134 P) .nil .nil) (.node (hpO198 P) .nil .nil)) (.node (hpO102 P) (.node (hpO166 P) .nil .nil) (.node (hpO230 P) .nil .nil))) (.node (hpO54 P) (.node (hpO86 P) (.node (hpO150 P) .nil .nil) (.node (hpO214 P) .nil .nil)) (.node (hpO118 P) (.node (hpO182 P) .nil .nil) (.node (hpO246 P) .nil .nil)))) (.node (hpO30 P) (.node (hpO46 P) (.node (hpO78 P) (.node (hpO142 P) .nil .nil) (.node (hpO206 P) .nil .nil)) (.node (hpO110 P) (.node (hpO174 P) .nil .nil) (.node (hpO238 P) .nil .nil))) (.node (hpO62 P) (.node (hpO94 P) (.node (hpO158 P) .nil .nil) (.node (hpO222 P) .nil .nil)) (.node (hpO126 P) (.node (hpO190 P) .nil .nil) (.node (hpO254 P) .nil .nil))))))))
noncomputable def hpZ36 (w : World) (os : OsState) : SharedT := { tree := hpT36 w.params, n := 262, life := {}, gens := (#[]), drawn := {}, toks := 546, os := os }
def hpP23 : Pos := ⟨82, 0, 82, 8⟩
def hpP24 : Pos := ⟨83, 0, 106, 59⟩
def hpP29 : Pos := ⟨122, 0, 137, 17⟩
def hpP36 : Pos := ⟨162, 0, 212, 103⟩
theorem hpLook : looksOpen PySem.Challenge.pw_np0031_01 = true := by
  unfold looksOpen
  repeat' (with_reducible refine look_both ?_ ?_)
  all_goals decide +kernel
theorem hpSaid : OpenLaw.wellSaid PySem.Challenge.rw_np0031_01 = true := by
  unfold OpenLaw.wellSaid OpenRow.wellSaid OpenRow.partSaid
  repeat' (with_reducible refine look_both ?_ ?_)
  exact hpLook
  all_goals decide +kernel
theorem hpOpening (w : World) : (fencedOpening treeTable PySem.Challenge.pw_np0031_01 w 3122).map (fun s => (s.heap, s.gens, s.drawn, s.toks)) = some (boot_heap w.params, Array.mk [], boot_drawn, boot_toks) :=
  boot_open (p := PySem.Challenge.pw_np0031_01) (by kernel_rfl) (by decide +kernel) (by intro s; kernel_rfl) w
theorem hpSize (w : World) : ((boot_heap w.params).isNs mainGlobals && (Array.mk [] : Array GenState).size == 0, (boot_heap w.params).objs.size, (boot_heap w.params).nsMap mainGlobals "__annotations__") = (true, 11, some (.ref 6)) := by kernel_rfl
theorem hpPre (w : World) (os : OsState) : topGo treeTable PySem.Challenge.pw_np0031_01 w 11 (some (.ref 6)) 12 ⟨boot_heap w.params, Array.mk [], boot_drawn, boot_toks, os⟩ (topStub PySem.Challenge.pw_np0031_01) = some ((hpStart w os).abs, ⟨denote treeTable (.body hpBody hpEnv), .body hpBody hpEnv, hpPos, [topFrame hpPos]⟩) := by kernel_rfl
theorem hpBlk (w : World) (os : OsState) : segRun treeTable PySem.Challenge.pw_np0031_01 w 11 (some (.ref 6)) 1 1 (hpStart w os).abs (blockOf hpBody hpEnv (.body hpBody hpEnv) hpPos [topFrame hpPos]) = some (.next, (hpStart w os).abs, .body hpBody hpEnv, hpPos) := by kernel_rfl
theorem hpFin (w : World) (s : Shared) : topRun treeTable PySem.Challenge.pw_np0031_01 w 11 (some (.ref 6)) 2 s ⟨doneF .next, .body hpBody hpEnv, hpP36, [topFrame hpPos]⟩ = some s := by kernel_rfl
abbrev hpCode : Code := .body hpBody hpEnv
abbrev hpRun (w : World) (N : Nat) (s : Shared) (t : Thread) : Option Shared := topRun treeTable PySem.Challenge.pw_np0031_01 w 11 (some (.ref 6)) N s t
abbrev hpSeg (w : World) (N : Nat) (s : SharedT) (l : List Stmt) (pos : Pos) : Option (Flow × SharedT × Code × Pos) := segRunT treeTable PySem.Challenge.pw_np0031_01 w 11 (some (.ref 6)) 1 N s (piecesOf l hpEnv hpCode pos [topFrame hpPos])
def hpStarts (n : Nat) (S : World → OsState → SharedT) (l : List Stmt) (pos : Pos) : Prop := ∀ (w : World) (os : OsState) (N : Nat) (r : Shared),
  hpRun w N (S w os).abs (restOf l hpEnv hpCode pos [topFrame hpPos]) = some r → hpRun w (n + N) ⟨boot_heap w.params, Array.mk [], boot_drawn, boot_toks, os⟩ (topStub PySem.Challenge.pw_np0031_01) = some r
theorem hpStart_ : hpStarts (12 + 1) hpStart hpBody hpPos := fun w os N r k => by
  have k2 := go_top (hpPre w os) (piece_block (hpBlk w os) k)
  rw [← Nat.add_assoc] at k2
  exact k2
theorem hpNext {n m : Nat} {S S' : World → OsState → SharedT} {l rest : List Stmt} {pos pos' : Pos} (st : hpStarts n S (l ++ rest) pos) (seg : ∀ (w : World) (os : OsState), hpSeg w m (S w os) l pos = some (.next, S' w os, hpCode, pos')) : hpStarts (n + m) S' rest pos' := fun w os N r k => by
  have k2 := st w os (m + N) r (piece_app (segRun_of (seg w os)) k)
  rw [← Nat.add_assoc] at k2
  exact k2
def hpL1 : List Stmt := hpBody.take 24
def hpL2 : List Stmt := (hpBody.drop 24).take 1
def hpL3 : List Stmt := (hpBody.drop 25).take 5
def hpL4 : List Stmt := hpBody.drop 30
theorem hpSplit : hpBody = hpL1 ++ (hpL2 ++ (hpL3 ++ (hpL4 ++ []))) := by kernel_rfl
theorem hpSeg1 (w : World) (os : OsState) : hpSeg w 540 (hpStart w os) hpL1 hpPos = some (.next, hpZ23 w os, hpCode, hpP23) := by kernel_rfl
theorem hpSeg2 (w : World) (os : OsState) : hpSeg w 370 (hpZ23 w os) hpL2 hpP23 = some (.next, hpZ24 w os, hpCode, hpP24) := by kernel_rfl
theorem hpSeg3 (w : World) (os : OsState) : hpSeg w 440 (hpZ24 w os) hpL3 hpP24 = some (.next, hpZ29 w os, hpCode, hpP29) := by kernel_rfl
theorem hpSeg4 (w : World) (os : OsState) : hpSeg w 190 (hpZ29 w os) hpL4 hpP29 = some (.next, hpZ36 w os, hpCode, hpP36) := by kernel_rfl
theorem hpStart5 : hpStarts (12 + 1 + 540 + 370 + 440 + 190) hpZ36 [] hpP36 := hpNext (hpNext (hpNext (hpNext (hpSplit ▸ hpStart_) hpSeg1) hpSeg2) hpSeg3) hpSeg4
noncomputable def hpLast (P : Params) : Heap := absHeap (hpT36 P) 262 {}
theorem hpTop (w : World) (os : OsState) : topRun treeTable PySem.Challenge.pw_np0031_01 w 11 (some (.ref 6)) (12 + 1 + 540 + 370 + 440 + 190 + 2) ⟨boot_heap w.params, Array.mk [], boot_drawn, boot_toks, os⟩ (topStub PySem.Challenge.pw_np0031_01) = some ⟨hpLast w.params, Array.mk [], {}, 546, os⟩ :=
  hpStart5 w os 2 _ (piece_nil (hpFin w (hpZ36 w os).abs))
local macro_rules | `(tactic| k_qdec) => `(tactic| decide +kernel)
local macro_rules | `(tactic| o_law) => `(tactic| (refine holds_law hpSaid fun said => ?_))
local macro_rules | `(tactic| o_head $H) => `(tactic| (
  refine holds_open (r := OpenLaw.row PySem.Challenge.rw_np0031_01) (q := view_) (loose := []) (Xt := fun s => xlAt view_ [] s && recOk [] s) (XP := XL view_ []) (Yf := Hook.obs $H) (Ya := Hook.val $H) (YP := Hook.says $H) (N := 3122) ?hl (Hook.of $H) (Hook.keeps $H) (fun s e => xl_of s (Bool.and_eq_true_iff.mp e).1) XL.keeps (by rfl) (by rfl) (by rfl) (fun s e => recFacts_of (Bool.and_eq_true_iff.mp e).2) (by rfl) (by first | assumption | decide +kernel) (by decide +kernel) ⟨rfl, rfl, rfl, rfl, rfl, by decide +kernel⟩ ?hw ?hc
  (case hl => exact LeftO.of_pieces hpOpening hpSize hpTop (by decide +kernel) (by intro w; kernel_rfl))))
set_option maxRecDepth 100000 in
set_option maxHeartbeats 8000000 in
open_top hd for PySem.Challenge.rw_np0031_01
local macro_rules | `(tactic| news_mem) => `(tactic| k_mem)
local macro_rules | `(tactic| tb_start) => `(tactic| first | exact List.mem_cons_self | ktr_member | (refine' List.mem_cons_of_mem _ ?_; tb_start))
local macro_rules | `(tactic| k_mem) => `(tactic| tb_start)
variable {w : World} {loose : List Str} {mean : ExcName → Option Value} {mg mb : Str → Option Value} {news : List (Addr × Obj)}

def Cl (w : World) (loose : List Str) (mean : ExcName → Option Value) (mg mb : Str → Option Value) (f : Addr) (news : List (Addr × Obj)) (vs : List Value) (u : Nat) (post : Value → List (Addr × Obj) → Prop) : Prop :=
  ∀ (dp un : Nat) (gd : Option (List Code)) (cn : Str) (cs : Scope) (a : Addr) (ccd : Value) (cl : List (Str × Addr)) (outer : List Env) (A₀ : Around) (base h₀ : Heap) (L : Addr) (m : Str → Option Value) (s : Shared) (Q E : Value → Shared → Prop),
    Below A₀ base outer h₀ → Fr h₀ L s.heap m → (Mine.hd.heap_1 w.params).In h₀ → News h₀ L s.heap news → Top Mine.view_ loose mean mg mb h₀ → cs.kind = .function →
    dp + u < recursionLimit → un + 8 * u < cLine →
    (∀ (r : Value) (nx : List (Addr × Obj)) (h' : Heap) (tk' : Nat), Fr h₀ L h' m → News h₀ L h' nx → post r nx → Q r { s with heap := h', toks := tk' }) →
    wpAny (model PySem.Challenge.rw_np0031_01.row.prog w) (ktrTop dp un gd cn cs L a ccd cl outer) (call (.ref f) vs) Q E s

theorem cl_use {w : World} {loose : List Str} {mean : ExcName → Option Value} {mg mb : Str → Option Value} {f : Addr} {news : List (Addr × Obj)} {vs : List Value} {u : Nat} {post : Value → List (Addr × Obj) → Prop}
    {dp un : Nat} {gd : Option (List Code)} {cn : Str} {cs : Scope} {a : Addr} {ccd : Value} {cl : List (Str × Addr)} {outer : List Env} {A₀ : Around} {base h₀ : Heap} {L : Addr} {m : Str → Option Value} {s : Shared} {Q E : Value → Shared → Prop}
    (C : Cl w loose mean mg mb f news vs u post) (B : Below A₀ base outer h₀) (F : Fr h₀ L s.heap m) (X : (Mine.hd.heap_1 w.params).In h₀) (N : News h₀ L s.heap news) (T : Top Mine.view_ loose mean mg mb h₀) (hk : cs.kind = .function)
    (hd : dp + u < recursionLimit) (hu : un + 8 * u < cLine)
    (ret : ∀ (r : Value) (nx : List (Addr × Obj)) (h' : Heap) (tk' : Nat), Fr h₀ L h' m → News h₀ L h' nx → post r nx → Q r { s with heap := h', toks := tk' }) :
    wpAny (model PySem.Challenge.rw_np0031_01.row.prog w) (ktrTop dp un gd cn cs L a ccd cl outer) (call (.ref f) vs) Q E s := C _ _ _ _ _ _ _ _ _ _ _ _ _ _ _ _ _ B F X N T hk hd hu ret

structure Sd (w : World) (loose : List Str) (mean : ExcName → Option Value) (mg mb : Str → Option Value) (news : List (Addr × Obj)) (u dp un : Nat) (cs : Scope) (outer : List Env) (A₀ : Around) (base h₀ : Heap) (L : Addr) (m : Str → Option Value) (h : Heap) : Prop where
  B : Below A₀ base outer h₀
  F : Fr h₀ L h m
  X : (Mine.hd.heap_1 w.params).In h₀
  N : News h₀ L h news
  T : Top Mine.view_ loose mean mg mb h₀
  hk : cs.kind = .function
  hd : dp + u < recursionLimit
  hu : un + 8 * u < cLine
theorem cl_go {w : World} {loose : List Str} {mean : ExcName → Option Value} {mg mb : Str → Option Value} {f : Addr} {news : List (Addr × Obj)} {vs : List Value} {u : Nat} {post : Value → List (Addr × Obj) → Prop}
    {dp un : Nat} {gd : Option (List Code)} {cn : Str} {cs : Scope} {a : Addr} {ccd : Value} {cl : List (Str × Addr)} {outer : List Env} {A₀ : Around} {base h₀ : Heap} {L : Addr} {m : Str → Option Value} {s : Shared} {Q E : Value → Shared → Prop}
    (C : Cl w loose mean mg mb f news vs u post) (S : Sd w loose mean mg mb news u dp un cs outer A₀ base h₀ L m s.heap)
    (ret : ∀ (r : Value) (nx : List (Addr × Obj)) (h' : Heap) (tk' : Nat), Fr h₀ L h' m → News h₀ L h' nx → post r nx → Q r { s with heap := h', toks := tk' }) :
    wpAny (model PySem.Challenge.rw_np0031_01.row.prog w) (ktrTop dp un gd cn cs L a ccd cl outer) (call (.ref f) vs) Q E s := C _ _ _ _ _ _ _ _ _ _ _ _ _ _ _ _ _ S.B S.F S.X S.N S.T S.hk S.hd S.hu ret

abbrev PI (news : List (Addr × Obj)) (x : Int) (r : Value) (nx : List (Addr × Obj)) : Prop := news = nx ∧ ∃ t, r = .int x t
abbrev PB (news : List (Addr × Obj)) (x : Bool) (r : Value) (nx : List (Addr × Obj)) : Prop := news = nx ∧ r = .bool x
abbrev tup2 (a b : Value) : Obj := { cls := .type "tuple", data := .seq #[a, b] }
abbrev PT (news : List (Addr × Obj)) (x y : Int) (r : Value) (nx : List (Addr × Obj)) : Prop := ∃ (l : Addr) (t u : Tok), r = .ref l ∧ nx = (l, tup2 (.int x t) (.int y u)) :: news ∧ ∀ p ∈ news, p.1 < l
abbrev PTS (news : List (Addr × Obj)) (x : Int) (y : Str) (r : Value) (nx : List (Addr × Obj)) : Prop := ∃ (l : Addr) (t u : Tok), r = .ref l ∧ nx = (l, tup2 (.int x t) (.str y u)) :: news ∧ ∀ p ∈ news, p.1 < l

structure ViewAt (news : List (Addr × Obj)) (v : Addr) (codes : List Int) : Prop where
  is : ∃ (dx lc : Addr) (hh1 hh2 : Int) (k1 k2 k3 n nn : Nat) (vs : List Value), (v, instObj 221 dx) ∈ news ∧ (dx, dictOf [⟨hh1, .str (Str.ofString "codes") k1, .ref lc⟩, ⟨hh2, .str (Str.ofString "place") k2, .int 1 k3⟩] n) ∈ news ∧ (lc, listOf vs.toArray nn) ∈ news ∧ IntsAre vs codes ∧ codes.length < 100
theorem ViewAt.mono {news news' : List (Addr × Obj)} {v : Addr} {codes : List Int} (h : ViewAt news v codes) (hs : ∀ p ∈ news, p ∈ news') : ViewAt news' v codes := by
  obtain ⟨dx, lc, hh1, hh2, k1, k2, k3, n, nn, vs, h1, h2, h3, h4⟩ := h.is
  exact ⟨dx, lc, hh1, hh2, k1, k2, k3, n, nn, vs, hs _ h1, hs _ h2, hs _ h3, h4⟩
theorem view_cons {news : List (Addr × Obj)} {v : Addr} {codes : List Int} {p : Addr × Obj} (h : ViewAt news v codes) : ViewAt (p :: news) v codes := h.mono fun _ hp => .tail _ hp
theorem view_app {news own : List (Addr × Obj)} {v : Addr} {codes : List Int} (h : ViewAt news v codes) : ViewAt (news ++ own) v codes := h.mono fun _ hp => List.mem_append.mpr (.inl hp)

def codeAt (codes : List Int) (x : Int) : Int := if 1 ≤ x ∧ x < 1 + (codes.length : Int) then codes.getD (x - 1).toNat 0 else -1
theorem code_in {codes : List Int} {x : Int} (h1 : 1 ≤ x) (h2 : x < 1 + (codes.length : Int)) : codes.getD (x - 1).toNat 0 = codeAt codes x := by
  unfold codeAt; rw [if_pos ⟨h1, h2⟩]
theorem code_out {codes : List Int} {x : Int} (h : ¬ (1 ≤ x ∧ x < 1 + (codes.length : Int))) : (-1 : Int) = codeAt codes x := by
  unfold codeAt; rw [if_neg h]
set_option maxHeartbeats 8000000 in
theorem code_at_ {v : Addr} {codes : List Int} {x : Int} {tx : Tok} (hv : ViewAt news v codes) :
    Cl w loose mean mg mb 218 news [.ref v, .int x tx] 1 (PI news (codeAt codes x)) := by
  obtain ⟨dx, lc, hh1, hh2, k1, k2, k3, n, nn, vs, h1, h2, h3, h4, h5⟩ := hv.is
  k_with_none
  w_top off
  unfold Cl
  k_fill
  intro dp un gd cn cs a ccd cl outer A₀ base h₀ L m s Q E B F X N T hk hd hu hret
  refine wpAny_call ?_
  k_dflt cell_enter
  k_steps
  · exact hret _ _ _ _ (by k_asm) (by k_asm) ⟨rfl, _, congrArg (Value.int · _) (code_in (by assumption) (by assumption))⟩
  · exact hret _ _ _ _ (by k_asm) (by k_asm) ⟨rfl, _, congrArg (Value.int · _) (code_out (by omega))⟩
  · exact hret _ _ _ _ (by k_asm) (by k_asm) ⟨rfl, _, congrArg (Value.int · _) (code_out (by omega))⟩
set_option maxHeartbeats 8000000 in
theorem begin_ {v : Addr} {codes : List Int} (hv : ViewAt news v codes) : Cl w loose mean mg mb 204 news [.ref v] 1 (PI news 1) := by
  obtain ⟨dx, lc, hh1, hh2, k1, k2, k3, n, nn, vs, h1, h2, h3, h4, h5⟩ := hv.is
  k_with_none
  w_top off
  unfold Cl
  k_fill
  intro dp un gd cn cs a ccd cl outer A₀ base h₀ L m s Q E B F X N T hk hd hu hret
  refine wpAny_call ?_
  k_dflt cell_enter
  k_steps
  · exact hret _ _ _ _ (by k_asm) (by k_asm) ⟨rfl, _, rfl⟩
set_option maxHeartbeats 8000000 in
theorem end_ {v : Addr} {codes : List Int} (hv : ViewAt news v codes) : Cl w loose mean mg mb 211 news [.ref v] 1 (PI news (1 + codes.length)) := by
  obtain ⟨dx, lc, hh1, hh2, k1, k2, k3, n, nn, vs, h1, h2, h3, h4, h5⟩ := hv.is
  k_with_none
  w_top off
  unfold Cl
  k_fill
  intro dp un gd cn cs a ccd cl outer A₀ base h₀ L m s Q E B F X N T hk hd hu hret
  refine wpAny_call ?_
  k_dflt cell_enter
  k_steps
  · exact hret _ _ _ _ (by k_asm) (by k_asm) ⟨rfl, _, rfl⟩
local macro_rules | `(tactic| tb_rel) => `(tactic| first | (with_reducible assumption) | exact view_cons (by tb_rel) | exact view_app (by tb_rel))
set_option hygiene false in
local macro_rules | `(tactic| walk_at "np s") => `(tactic| (case k1 => apply Sd.mk; k_asm; k_asm; k_asm; k_asm; k_asm; (first | exact rfl | assumption); ktr_room; ktr_units))
set_option hygiene false in
local macro_rules | `(tactic| walk_at "np t") => `(tactic| (walk_at "np s"; (case k0 => tb_rel)))
local macro_rules | `(tactic| walk_at "np PI") => `(tactic| (k_whole; intro r9 nx9 h9 tk9 F9 N9 p9; (obtain ⟨e9, t9, e8⟩ := p9); subst e9; subst e8; (try dsimp only); (try k_fold)))
local macro_rules | `(tactic| walk_at "np PB") => `(tactic| (k_whole; intro r9 nx9 h9 tk9 F9 N9 p9; (obtain ⟨e9, e8⟩ := p9); subst e9; subst e8; (try dsimp only); (try k_fold)))
local macro_rules | `(tactic| walk_at "np PT") => `(tactic| (k_whole; intro r9 nx9 h9 tk9 F9 N9 p9; (obtain ⟨l9, t9, u9, e8, e9, q9⟩ := p9); subst e8; subst e9; (try k_lt q9); (try dsimp only); (try k_fold)))
local macro_rules | `(tactic| walk_at "np P2") => `(tactic| (k_whole; intro r9 nx9 h9 tk9 F9 N9 p9; ((rcases p9 with ⟨c9, l9, t9, u9, e8, e9, q9⟩ | ⟨c9, l9, t9, u9, e8, e9, q9⟩) <;> (subst e8; subst e9; (try k_lt q9))); (try dsimp only); (try k_fold)))
set_option hygiene false in
local macro_rules | `(tactic| walk_at "call ref") => `(tactic| (k_here; k_dflt (show wpAny _ _ (call (Value.ref 218) [Value.ref _, Value.int _ _]) _ _ _; refine' cl_go (code_at_ ?k0) ?k1 ?_; walk_at "np t"; walk_at "np PI")))
set_option hygiene false in
local macro_rules | `(tactic| walk_at "call ref") => `(tactic| (k_here; k_dflt (show wpAny _ _ (call (Value.ref 204) [Value.ref _]) _ _ _; refine' cl_go (begin_ ?k0) ?k1 ?_; walk_at "np t"; walk_at "np PI")))
set_option hygiene false in
local macro_rules | `(tactic| walk_at "call ref") => `(tactic| (k_here; k_dflt (show wpAny _ _ (call (Value.ref 211) [Value.ref _]) _ _ _; refine' cl_go (end_ ?k0) ?k1 ?_; walk_at "np t"; walk_at "np PI")))

/-- the offset of the start of the line -/
def lsN (codes : List Int) : Nat → Nat
  | 0 => 0
  | n + 1 => if codes.getD n 0 = 10 then n + 1 else lsN codes n
theorem lsN_le (codes : List Int) : ∀ n, lsN codes n ≤ n
  | 0 => Nat.le_refl _
  | n + 1 => by unfold lsN; split; exact Nat.le_refl _; exact Nat.le_succ_of_le (lsN_le codes n)
theorem ls_turn {codes : List Int} {y : Int} {r : Nat} (h : 1 ≤ y ∧ y ≤ 1 + (codes.length : Int) ∧ lsN codes (y - 1).toNat = r) (h1 : 1 < y) (h2 : codeAt codes (y - 1) ≠ 10) :
    1 ≤ y - 1 ∧ y - 1 ≤ 1 + (codes.length : Int) ∧ lsN codes (y - 1 - 1).toNat = r := by
  refine ⟨by omega, by omega, ?_⟩
  obtain ⟨_, hb, h3⟩ := h
  have e : (y - 1).toNat = (y - 1 - 1).toNat + 1 := by omega
  rw [e] at h3
  rw [← h3]
  conv => rhs; unfold lsN
  unfold codeAt at h2
  rw [if_pos ⟨by omega, by omega⟩] at h2
  rw [if_neg h2]
theorem ls_end0 {codes : List Int} {y : Int} {r : Nat} (h : 1 ≤ y ∧ y ≤ 1 + (codes.length : Int) ∧ lsN codes (y - 1).toNat = r) (h1 : ¬ 1 < y) : y = 1 + (r : Int) := by
  obtain ⟨ha, hb, h3⟩ := h
  have e : y = 1 := by omega
  subst e
  simp [lsN] at h3
  omega
theorem ls_end1 {codes : List Int} {y : Int} {r : Nat} (h : 1 ≤ y ∧ y ≤ 1 + (codes.length : Int) ∧ lsN codes (y - 1).toNat = r) (h1 : 1 < y) (h2 : codeAt codes (y - 1) = 10) : y = 1 + (r : Int) := by
  obtain ⟨_, hb, h3⟩ := h
  have e : (y - 1).toNat = (y - 1 - 1).toNat + 1 := by omega
  rw [e] at h3
  unfold codeAt at h2
  rw [if_pos ⟨by omega, by omega⟩] at h2
  unfold lsN at h3
  rw [if_pos h2] at h3
  omega
set_option maxHeartbeats 8000000 in
theorem line_start_ {v : Addr} {codes : List Int} {x : Int} {tx : Tok} (hv : ViewAt news v codes) (hx : 1 ≤ x ∧ x ≤ 1 + (codes.length : Int)) :
    Cl w loose mean mg mb 21 news [.ref v, .int x tx] 2 (PI news (1 + (lsN codes (x - 1).toNat : Int))) := by
  obtain ⟨dx, lc, hh1, hh2, k1, k2, k3, n, nn, vs, h1, h2, h3, h4, h5⟩ := hv.is
  k_with_none
  w_top off
  unfold Cl
  k_fill
  intro dp un gd cn cs a ccd cl outer A₀ base h₀ L m s Q E B F X N T hk hd hu hret
  k_with "state" => first | exact ls_turn ⟨by assumption, by assumption, by assumption⟩ (by assumption) (by assumption) | exact ⟨hx.1, hx.2, rfl⟩
  k_with "exec While BoolOp cons nil" => k_while (fun _ y => 1 ≤ y ∧ y ≤ 1 + (codes.length : Int) ∧ lsN codes (y - 1).toNat = lsN codes (x - 1).toNat) (fun _ y => y.toNat) "at"
  refine wpAny_call ?_
  k_dflt cell_enter
  k_steps
  · exact hret _ _ _ _ (by k_asm) (by k_asm) ⟨rfl, _, congrArg (Value.int · _) (ls_end1 ⟨by assumption, by assumption, by assumption⟩ (by assumption) (by assumption))⟩
  · exact hret _ _ _ _ (by k_asm) (by k_asm) ⟨rfl, _, congrArg (Value.int · _) (ls_end0 ⟨by assumption, by assumption, by assumption⟩ (by assumption))⟩
set_option hygiene false in
local macro_rules | `(tactic| walk_at "call ref") => `(tactic| (k_here; k_dflt (show wpAny _ _ (call (Value.ref 21) [Value.ref _, Value.int _ _]) _ _ _; refine' cl_go (line_start_ ?k0 ?j0) ?k1 ?_; walk_at "np t"; (case j0 => omega); walk_at "np PI")))

/-- the offset of the end of the line -/
def leN (codes : List Int) (p : Nat) : Nat := if p < codes.length ∧ codes.getD p 0 ≠ 10 then leN codes (p + 1) else p
termination_by codes.length - p
theorem leN_stop {codes : List Int} {p : Nat} (h : ¬ (p < codes.length ∧ codes.getD p 0 ≠ 10)) : leN codes p = p := by rw [leN, if_neg h]
theorem leN_step {codes : List Int} {p : Nat} (h : p < codes.length ∧ codes.getD p 0 ≠ 10) : leN codes p = leN codes (p + 1) := by rw [leN, if_pos h]
theorem le_turn {codes : List Int} {y : Int} {r : Nat} (h : 1 ≤ y ∧ y ≤ 1 + (codes.length : Int) ∧ leN codes (y - 1).toNat = r) (h1 : y < 1 + (codes.length : Int)) (h2 : codeAt codes y ≠ 10) :
    1 ≤ y + 1 ∧ y + 1 ≤ 1 + (codes.length : Int) ∧ leN codes (y + 1 - 1).toNat = r := by
  refine ⟨by omega, by omega, ?_⟩
  obtain ⟨ha, hb, h3⟩ := h
  have e : (y + 1 - 1).toNat = (y - 1).toNat + 1 := by omega
  rw [e, ← h3]
  unfold codeAt at h2
  rw [if_pos ⟨by omega, by omega⟩] at h2
  exact (leN_step ⟨by omega, h2⟩).symm
theorem le_end0 {codes : List Int} {y : Int} {r : Nat} (h : 1 ≤ y ∧ y ≤ 1 + (codes.length : Int) ∧ leN codes (y - 1).toNat = r) (h1 : ¬ y < 1 + (codes.length : Int)) : y = 1 + (r : Int) := by
  obtain ⟨ha, hb, h3⟩ := h
  rw [leN_stop (by omega)] at h3
  omega
theorem le_end1 {codes : List Int} {y : Int} {r : Nat} (h : 1 ≤ y ∧ y ≤ 1 + (codes.length : Int) ∧ leN codes (y - 1).toNat = r) (h1 : y < 1 + (codes.length : Int)) (h2 : codeAt codes y = 10) : y = 1 + (r : Int) := by
  obtain ⟨ha, hb, h3⟩ := h
  unfold codeAt at h2
  rw [if_pos ⟨by omega, by omega⟩] at h2
  rw [leN_stop (fun q => q.2 h2)] at h3
  omega
theorem leN_ge (codes : List Int) (p : Nat) : p ≤ leN codes p := by
  induction p using leN.induct (codes := codes) with
  | case1 p h ih => rw [leN_step h]; omega
  | case2 p h => rw [leN_stop h]; omega
theorem leN_len (codes : List Int) (p : Nat) (h0 : p ≤ codes.length) : leN codes p ≤ codes.length := by
  induction p using leN.induct (codes := codes) with
  | case1 p h ih => rw [leN_step h]; exact ih h.1
  | case2 p h => rw [leN_stop h]; omega
set_option maxHeartbeats 8000000 in
theorem line_end_ {v : Addr} {codes : List Int} {x : Int} {tx : Tok} (hv : ViewAt news v codes) (hx : 1 ≤ x ∧ x ≤ 1 + (codes.length : Int)) :
    Cl w loose mean mg mb 28 news [.ref v, .int x tx] 2 (PI news (1 + (leN codes (x - 1).toNat : Int))) := by
  obtain ⟨dx, lc, hh1, hh2, k1, k2, k3, n, nn, vs, h1, h2, h3, h4, h5⟩ := hv.is
  k_with_none
  w_top off
  unfold Cl
  k_fill
  intro dp un gd cn cs a ccd cl outer A₀ base h₀ L m s Q E B F X N T hk hd hu hret
  k_with "state" => first | exact le_turn ⟨by assumption, by assumption, by assumption⟩ (by assumption) (by assumption) | exact ⟨hx.1, hx.2, rfl⟩
  k_with "exec While BoolOp cons nil" => k_while (fun _ y => 1 ≤ y ∧ y ≤ 1 + (codes.length : Int) ∧ leN codes (y - 1).toNat = leN codes (x - 1).toNat) (fun _ y => (1 + (codes.length : Int) - y).toNat) "at"
  refine wpAny_call ?_
  k_dflt cell_enter
  k_steps
  · exact hret _ _ _ _ (by k_asm) (by k_asm) ⟨rfl, _, congrArg (Value.int · _) (le_end1 ⟨by assumption, by assumption, by assumption⟩ (by assumption) (by assumption))⟩
  · exact hret _ _ _ _ (by k_asm) (by k_asm) ⟨rfl, _, congrArg (Value.int · _) (le_end0 ⟨by assumption, by assumption, by assumption⟩ (by assumption))⟩
set_option hygiene false in
local macro_rules | `(tactic| walk_at "call ref") => `(tactic| (k_here; k_dflt (show wpAny _ _ (call (Value.ref 28) [Value.ref _, Value.int _ _]) _ _ _; refine' cl_go (line_end_ ?k0 ?j0) ?k1 ?_; walk_at "np t"; (case j0 => omega); walk_at "np PI")))

/-- the next line's start, -1 where there is none -/
def nsV (codes : List Int) (p : Nat) : Int := if leN codes p < codes.length then 1 + (leN codes p : Int) + 1 else -1
def isEnd (codes : List Int) (x : Int) : Bool := decide (x = 1 + (codes.length : Int) ∨ codeAt codes x = 10)
def wAt (code col w : Int) : Int := if code = 9 then w - Int.fmod col w else if code < 32 ∨ code = 127 then 2 else if 127 < code ∧ code < 160 then 4 else 1
theorem ie_one {codes : List Int} {x : Int} (h : x = 1 + (codes.length : Int)) : (x == 1 + (codes.length : Int)) = isEnd codes x := by
  unfold isEnd; simp [h]
theorem ie_two {codes : List Int} {x : Int} (h : x ≠ 1 + (codes.length : Int)) : (codeAt codes x == 10) = isEnd codes x := by
  unfold isEnd; by_cases e : codeAt codes x = 10 <;> simp [h, e]
theorem ns_in {codes : List Int} {p : Nat} (h : (1 + (leN codes p : Int)) < 1 + (codes.length : Int)) : (1 + (leN codes p : Int)) + 1 = nsV codes p := by
  unfold nsV; rw [if_pos (by omega)]
theorem ns_out {codes : List Int} {p : Nat} (h : ¬ (1 + (leN codes p : Int)) < 1 + (codes.length : Int)) : (-1 : Int) = nsV codes p := by
  unfold nsV; rw [if_neg (by omega)]
set_option maxHeartbeats 8000000 in
theorem next_start_ {v : Addr} {codes : List Int} {x : Int} {tx : Tok} (hv : ViewAt news v codes) (hx : 1 ≤ x ∧ x ≤ 1 + (codes.length : Int)) :
    Cl w loose mean mg mb 35 news [.ref v, .int x tx] 3 (PI news (nsV codes (x - 1).toNat)) := by
  obtain ⟨dx, lc, hh1, hh2, k1, k2, k3, n, nn, vs, h1, h2, h3, h4, h5⟩ := hv.is
  k_with_none
  w_top off
  unfold Cl
  k_fill
  intro dp un gd cn cs a ccd cl outer A₀ base h₀ L m s Q E B F X N T hk hd hu hret
  refine wpAny_call ?_
  k_dflt cell_enter
  k_steps
  · exact hret _ _ _ _ (by k_asm) (by k_asm) ⟨rfl, _, congrArg (Value.int · _) (ns_in (by assumption))⟩
  · exact hret _ _ _ _ (by k_asm) (by k_asm) ⟨rfl, _, congrArg (Value.int · _) (ns_out (by assumption))⟩
set_option maxHeartbeats 8000000 in
theorem is_line_end_ {v : Addr} {codes : List Int} {x : Int} {tx : Tok} (hv : ViewAt news v codes) :
    Cl w loose mean mg mb 49 news [.ref v, .int x tx] 2 (PB news (isEnd codes x)) := by
  obtain ⟨dx, lc, hh1, hh2, k1, k2, k3, n, nn, vs, h1, h2, h3, h4, h5⟩ := hv.is
  k_with_none
  w_top off
  unfold Cl
  k_fill
  intro dp un gd cn cs a ccd cl outer A₀ base h₀ L m s Q E B F X N T hk hd hu hret
  refine wpAny_call ?_
  k_dflt cell_enter
  k_steps
  · exact hret _ _ _ _ (by k_asm) (by k_asm) ⟨rfl, congrArg Value.bool (ie_one (by assumption))⟩
  · exact hret _ _ _ _ (by k_asm) (by k_asm) ⟨rfl, congrArg Value.bool (ie_two (by assumption))⟩
set_option maxHeartbeats 8000000 in
theorem width_at_ {c k b : Int} {tx ty tz : Tok} (hb : 1 ≤ b) :
    Cl w loose mean mg mb 98 news [.int c tx, .int k ty, .int b tz] 1 (PI news (wAt c k b)) := by
  k_with_none
  w_top off
  unfold Cl
  k_fill
  intro dp un gd cn cs a ccd cl outer A₀ base h₀ L m s Q E B F X N T hk hd hu hret
  refine wpAny_call ?_
  k_dflt cell_enter
  k_steps
  all_goals exact hret _ _ _ _ (by k_asm) (by k_asm) ⟨rfl, _, congrArg (Value.int · _) (by unfold wAt; (repeat' split) <;> first | rfl | omega)⟩
set_option hygiene false in
local macro_rules | `(tactic| walk_at "call ref") => `(tactic| (k_here; k_dflt (show wpAny _ _ (call (Value.ref 35) [Value.ref _, Value.int _ _]) _ _ _; refine' cl_go (next_start_ ?k0 ?j0) ?k1 ?_; walk_at "np t"; (case j0 => omega); walk_at "np PI")))
set_option hygiene false in
local macro_rules | `(tactic| walk_at "call ref") => `(tactic| (k_here; k_dflt (show wpAny _ _ (call (Value.ref 49) [Value.ref _, Value.int _ _]) _ _ _; refine' cl_go (is_line_end_ ?k0) ?k1 ?_; walk_at "np t"; walk_at "np PB")))
set_option hygiene false in
local macro_rules | `(tactic| walk_at "call ref") => `(tactic| (k_here; k_dflt (show wpAny _ _ (call (Value.ref 98) [Value.int _ _, Value.int _ _, Value.int _ _]) _ _ _; refine' cl_go (width_at_ ?j0) ?k1 ?_; walk_at "np s"; (case j0 => omega); walk_at "np PI")))

/-- the column behind k codes from the offset p -/
def colF (codes : List Int) (b : Int) (p : Nat) : Nat → Int
  | 0 => 0
  | k + 1 => colF codes b p k + wAt (codeAt codes (1 + (p : Int) + (k : Int))) (colF codes b p k) b
def paK (codes : List Int) (b col : Int) (p e : Nat) (k : Nat) : Nat := if p + k < e ∧ colF codes b p k < col then paK codes b col p e (k + 1) else k
termination_by e - (p + k)
theorem paK_stop {codes : List Int} {b col : Int} {p e k : Nat} (h : ¬ (p + k < e ∧ colF codes b p k < col)) : paK codes b col p e k = k := by rw [paK, if_neg h]
theorem paK_step {codes : List Int} {b col : Int} {p e k : Nat} (h : p + k < e ∧ colF codes b p k < col) : paK codes b col p e k = paK codes b col p e (k + 1) := by rw [paK, if_pos h]
theorem col_turn {codes : List Int} {b c a : Int} {p : Nat} {pre : List Int} {k : Int} (hk : k = 1 + (p : Int) + (pre.length : Int)) (h : c = colF codes b p pre.length) : c + wAt (codeAt codes k) c b = colF codes b p (pre ++ [a]).length := by
  rw [List.length_append, List.length_cons, List.length_nil, hk, h]; rfl
set_option maxHeartbeats 8000000 in
theorem column_at_ {v : Addr} {codes : List Int} {x b : Int} {tx ty : Tok} (hv : ViewAt news v codes) (hx : 1 ≤ x ∧ x ≤ 1 + (codes.length : Int)) (hb : 1 ≤ b) :
    Cl w loose mean mg mb 105 news [.ref v, .int x tx, .int b ty] 3 (PI news (colF codes b (lsN codes (x - 1).toNat) ((x - 1).toNat - lsN codes (x - 1).toNat))) := by
  have hls := lsN_le codes (x - 1).toNat
  obtain ⟨dx, lc, hh1, hh2, k1, k2, k3, n, nn, vs, h1, h2, h3, h4, h5⟩ := hv.is
  k_with_none
  w_top off
  unfold Cl
  k_fill
  intro dp un gd cn cs a ccd cl outer A₀ base h₀ L m s Q E B F X N T hk hd hu hret
  k_with "state" => first | exact col_turn (by assumption) (by assumption) | exact rfl
  k_with "pyIter ref" => k_state (fun pre c => c = colF codes b (lsN codes (x - 1).toNat) pre.length) "column"
  refine wpAny_call ?_
  k_dflt cell_enter
  k_steps
  · exact hret _ _ _ _ (by k_asm) (by k_asm) ⟨rfl, _, congrArg (Value.int · _) ((by assumption : _ = colF _ _ _ _).trans (congrArg (colF _ _ _) (by rw [rangeKs_length]; omega)))⟩
set_option hygiene false in
local macro_rules | `(tactic| walk_at "call ref") => `(tactic| (k_here; k_dflt (show wpAny _ _ (call (Value.ref 105) [Value.ref _, Value.int _ _, Value.int _ _]) _ _ _; refine' cl_go (column_at_ ?k0 ?j0 ?j1) ?k1 ?_; walk_at "np t"; (case j0 => omega); (case j1 => omega); walk_at "np PI")))

theorem pa_turn {codes : List Int} {b c : Int} {p e : Nat} {y r : Int} {z : Nat} (h : 1 + (p : Int) ≤ y ∧ y ≤ 1 + (e : Int) ∧ r = colF codes b p (y - 1 - (p : Int)).toNat ∧ paK codes b c p e (y - 1 - (p : Int)).toNat = z) (h1 : y < 1 + (e : Int)) (h2 : r < c) :
    1 + (p : Int) ≤ y + 1 ∧ y + 1 ≤ 1 + (e : Int) ∧ r + wAt (codeAt codes y) r b = colF codes b p (y + 1 - 1 - (p : Int)).toNat ∧ paK codes b c p e (y + 1 - 1 - (p : Int)).toNat = z := by
  obtain ⟨ha, hb, h3, h4⟩ := h
  have e1 : (y + 1 - 1 - (p : Int)).toNat = (y - 1 - (p : Int)).toNat + 1 := by omega
  have e2 : y = 1 + (p : Int) + ((y - 1 - (p : Int)).toNat : Int) := by omega
  refine ⟨by omega, by omega, ?_, ?_⟩
  · rw [e1, colF, ← h3, ← e2]
  · rw [e1, ← paK_step ⟨by omega, by rw [← h3]; exact h2⟩]; exact h4
theorem pa_start {codes : List Int} {b c : Int} {p e : Nat} (h : p ≤ e) : 1 + (p : Int) ≤ 1 + (p : Int) ∧ 1 + (p : Int) ≤ 1 + (e : Int) ∧ 0 = colF codes b p (1 + (p : Int) - 1 - (p : Int)).toNat ∧ paK codes b c p e (1 + (p : Int) - 1 - (p : Int)).toNat = paK codes b c p e 0 := by
  have e1 : (1 + (p : Int) - 1 - (p : Int)).toNat = 0 := by omega
  rw [e1]
  exact ⟨by omega, by omega, rfl, rfl⟩
theorem pa_end {codes : List Int} {b c : Int} {p e : Nat} {y r : Int} {z : Nat} (h : 1 + (p : Int) ≤ y ∧ y ≤ 1 + (e : Int) ∧ r = colF codes b p (y - 1 - (p : Int)).toNat ∧ paK codes b c p e (y - 1 - (p : Int)).toNat = z) (h1 : ¬ y < 1 + (e : Int) ∨ ¬ r < c) :
    y = 1 + (p : Int) + (z : Int) ∧ r = colF codes b p z := by
  obtain ⟨ha, hb, h3, h4⟩ := h
  rw [paK_stop (fun q => h1.elim (fun x => x (by omega)) fun x => x (by rw [h3]; exact q.2))] at h4
  subst h4
  exact ⟨by omega, h3⟩
set_option maxHeartbeats 8000000 in
theorem place_at_ {v : Addr} {codes : List Int} {x b c : Int} {tx ty tz : Tok} (hv : ViewAt news v codes) (hx : 1 ≤ x ∧ x ≤ 1 + (codes.length : Int)) (hb : 1 ≤ b) :
    Cl w loose mean mg mb 112 news [.ref v, .int x tx, .int c tz, .int b ty] 3 (PT news (1 + (lsN codes (x - 1).toNat : Int) + (paK codes b c (lsN codes (x - 1).toNat) (leN codes (x - 1).toNat) 0 : Int)) (colF codes b (lsN codes (x - 1).toNat) (paK codes b c (lsN codes (x - 1).toNat) (leN codes (x - 1).toNat) 0))) := by
  have hls := lsN_le codes (x - 1).toNat
  have hle := leN_ge codes (x - 1).toNat
  have hll := leN_len codes (x - 1).toNat (by omega)
  obtain ⟨dx, lc, hh1, hh2, k1, k2, k3, n, nn, vs, h1, h2, h3, h4, h5⟩ := hv.is
  k_with_none
  w_top off
  unfold Cl
  k_fill
  intro dp un gd cn cs a ccd cl outer A₀ base h₀ L m s Q E B F X N T hk hd hu hret
  k_with "state" => first | exact pa_turn ⟨by assumption, by assumption, by assumption, by assumption⟩ (by assumption) (by assumption) | exact pa_start (by omega)
  k_with "exec While BoolOp cons nil" => k_while (fun _ y r => 1 + (lsN codes (x - 1).toNat : Int) ≤ y ∧ y ≤ 1 + (leN codes (x - 1).toNat : Int) ∧ r = colF codes b (lsN codes (x - 1).toNat) (y - 1 - (lsN codes (x - 1).toNat : Int)).toNat ∧ paK codes b c (lsN codes (x - 1).toNat) (leN codes (x - 1).toNat) (y - 1 - (lsN codes (x - 1).toNat : Int)).toNat = paK codes b c (lsN codes (x - 1).toNat) (leN codes (x - 1).toNat) 0) (fun _ y _ => (1 + (leN codes (x - 1).toNat : Int) - y).toNat) "at" "reached"
  refine wpAny_call ?_
  k_dflt cell_enter
  k_steps
  all_goals (
    obtain ⟨e1, e2⟩ := pa_end ⟨by assumption, by assumption, by assumption, by assumption⟩ (by first | (left; assumption) | (right; assumption))
    subst e1 e2
    exact hret _ _ _ _ (by k_asm) (by k_asm) ⟨_, _, _, rfl, rfl, by assumption⟩)
set_option hygiene false in
local macro_rules | `(tactic| walk_at "call ref") => `(tactic| (k_here; k_dflt (show wpAny _ _ (call (Value.ref 112) [Value.ref _, Value.int _ _, Value.int _ _, Value.int _ _]) _ _ _; refine' cl_go (place_at_ ?k0 ?j0 ?j1) ?k1 ?_; walk_at "np t"; (case j0 => omega); (case j1 => omega); walk_at "np PT")))

def clampV (codes : List Int) (x : Int) : Int := max 1 (min (1 + (codes.length : Int)) x)
theorem clamp_in (codes : List Int) (x : Int) : 1 ≤ clampV codes x ∧ clampV codes x ≤ 1 + (codes.length : Int) := by unfold clampV; omega
def wordOf (a b : Int) : Str := if a < b then Str.ofString "end-of-buffer" else if b < a then Str.ofString "beginning-of-buffer" else Str.ofString ""
set_option maxHeartbeats 8000000 in
theorem clamped_ {v : Addr} {codes : List Int} {x : Int} {tx : Tok} (hv : ViewAt news v codes) :
    Cl w loose mean mg mb 56 news [.ref v, .int x tx] 2 (PI news (clampV codes x)) := by
  obtain ⟨dx, lc, hh1, hh2, k1, k2, k3, n, nn, vs, h1, h2, h3, h4, h5⟩ := hv.is
  k_with_none
  w_top off
  unfold Cl
  k_fill
  intro dp un gd cn cs a ccd cl outer A₀ base h₀ L m s Q E B F X N T hk hd hu hret
  refine wpAny_call ?_
  k_dflt cell_enter
  k_steps
  exact hret _ _ _ _ (by k_asm) (by k_asm) ⟨rfl, _, congrArg (Value.int · _) (by unfold clampV; (repeat' split) <;> omega)⟩
set_option hygiene false in
local macro_rules | `(tactic| walk_at "call ref") => `(tactic| (k_here; k_dflt (show wpAny _ _ (call (Value.ref 56) [Value.ref _, Value.int _ _]) _ _ _; refine' cl_go (clamped_ ?k0) ?k1 ?_; walk_at "np t"; walk_at "np PI")))

def upK (codes : List Int) : Nat → Nat → Nat × Nat
  | a, 0 => (a, 0)
  | a, k + 1 => if 0 < a then upK codes (lsN codes (a - 1)) k else (a, k + 1)
def dnK (codes : List Int) : Nat → Nat → Int × Int
  | a, 0 => (1 + (a : Int), 0)
  | a, k + 1 => if leN codes a < codes.length then dnK codes (leN codes a + 1) k else (1 + (codes.length : Int), (k : Int) + 1 - (if a < codes.length then 1 else 0))
def ltV (codes : List Int) (x many : Int) : Int × Int :=
  if many ≤ 0 then (1 + ((upK codes (lsN codes (x - 1).toNat) (-many).toNat).1 : Int), -((upK codes (lsN codes (x - 1).toNat) (-many).toNat).2 : Int)) else dnK codes (x - 1).toNat many.toNat
theorem up_start {codes : List Int} {x many : Int} (hx : 1 ≤ x ∧ x ≤ 1 + (codes.length : Int)) (h : many ≤ 0) : 1 ≤ 1 + (lsN codes (x - 1).toNat : Int) ∧ 1 + (lsN codes (x - 1).toNat : Int) ≤ 1 + (codes.length : Int) ∧ many ≤ 0 ∧ upK codes (1 + (lsN codes (x - 1).toNat : Int) - 1).toNat (-many).toNat = upK codes (lsN codes (x - 1).toNat) (-many).toNat := by
  have := lsN_le codes (x - 1).toNat
  refine ⟨by omega, by omega, h, ?_⟩
  rw [show (1 + (lsN codes (x - 1).toNat : Int) - 1).toNat = lsN codes (x - 1).toNat from by omega]
theorem up_turn {codes : List Int} {y z : Int} {r : Nat × Nat} (h : 1 ≤ y ∧ y ≤ 1 + (codes.length : Int) ∧ z ≤ 0 ∧ upK codes (y - 1).toNat (-z).toNat = r) (h1 : z < 0) (h2 : 1 < y) :
    1 ≤ 1 + (lsN codes (y - 1 - 1).toNat : Int) ∧ 1 + (lsN codes (y - 1 - 1).toNat : Int) ≤ 1 + (codes.length : Int) ∧ z + 1 ≤ 0 ∧ upK codes (1 + (lsN codes (y - 1 - 1).toNat : Int) - 1).toNat (-(z + 1)).toNat = r := by
  have := lsN_le codes (y - 1 - 1).toNat
  obtain ⟨ha, hb, h3, h4⟩ := h
  refine ⟨by omega, by omega, by omega, ?_⟩
  rw [show (1 + (lsN codes (y - 1 - 1).toNat : Int) - 1).toNat = lsN codes (y - 1 - 1).toNat from by omega]
  rw [show (-z).toNat = (-(z + 1)).toNat + 1 from by omega, upK, if_pos (by omega)] at h4
  rw [← h4, show (y - 1 - 1).toNat = (y - 1).toNat - 1 from by omega]
theorem up_end {codes : List Int} {y z : Int} {r : Nat × Nat} (h : 1 ≤ y ∧ y ≤ 1 + (codes.length : Int) ∧ z ≤ 0 ∧ upK codes (y - 1).toNat (-z).toNat = r) (h1 : ¬ z < 0 ∨ ¬ 1 < y) : y = 1 + (r.1 : Int) ∧ z = -(r.2 : Int) := by
  obtain ⟨ha, hb, h3, h4⟩ := h
  cases hz : (-z).toNat with
  | zero => rw [hz, upK] at h4; subst h4; exact ⟨by show y = 1 + (((y - 1).toNat : Nat) : Int); omega, by show z = -((0 : Nat) : Int); omega⟩
  | succ k =>
    rw [hz, upK, if_neg (by omega)] at h4
    subst h4
    exact ⟨by show y = 1 + (((y - 1).toNat : Nat) : Int); omega, by show z = -((k + 1 : Nat) : Int); omega⟩
theorem dn_turn {codes : List Int} {y z : Int} {r : Int × Int} (h : 1 ≤ y ∧ y ≤ 1 + (codes.length : Int) ∧ 0 ≤ z ∧ dnK codes (y - 1).toNat z.toNat = r) (h1 : 0 < z) (h2 : ¬ nsV codes (y - 1).toNat < 0) :
    1 ≤ nsV codes (y - 1).toNat ∧ nsV codes (y - 1).toNat ≤ 1 + (codes.length : Int) ∧ 0 ≤ z - 1 ∧ dnK codes (nsV codes (y - 1).toNat - 1).toNat (z - 1).toNat = r := by
  obtain ⟨ha, hb, h3, h4⟩ := h
  unfold nsV at h2
  have hq : leN codes (y - 1).toNat < codes.length := Classical.byContradiction fun q => by rw [if_neg q] at h2; omega
  have e : nsV codes (y - 1).toNat = 1 + (leN codes (y - 1).toNat : Int) + 1 := by unfold nsV; rw [if_pos hq]
  rw [e]
  refine ⟨by omega, by omega, by omega, ?_⟩
  rw [show z.toNat = (z - 1).toNat + 1 from by omega, dnK, if_pos hq] at h4
  rw [← h4, show (1 + (leN codes (y - 1).toNat : Int) + 1 - 1).toNat = leN codes (y - 1).toNat + 1 from by omega]
theorem dn_end {codes : List Int} {y z : Int} {r : Int × Int} (h : 1 ≤ y ∧ y ≤ 1 + (codes.length : Int) ∧ 0 ≤ z ∧ dnK codes (y - 1).toNat z.toNat = r) (h1 : ¬ 0 < z) : r = (y, 0) := by
  obtain ⟨ha, hb, h3, h4⟩ := h
  rw [show z.toNat = 0 from by omega, dnK] at h4
  rw [← h4, show (1 + ((y - 1).toNat : Int)) = y from by omega]
theorem dn_ret {codes : List Int} {y z : Int} {r : Int × Int} (h : 1 ≤ y ∧ y ≤ 1 + (codes.length : Int) ∧ 0 ≤ z ∧ dnK codes (y - 1).toNat z.toNat = r) (h1 : 0 < z) (h2 : nsV codes (y - 1).toNat < 0) : r = (1 + (codes.length : Int), z - (if y < 1 + (codes.length : Int) then 1 else 0)) := by
  obtain ⟨ha, hb, h3, h4⟩ := h
  unfold nsV at h2
  have hq : ¬ leN codes (y - 1).toNat < codes.length := fun q => by rw [if_pos q] at h2; omega
  rw [show z.toNat = (z - 1).toNat + 1 from by omega, dnK, if_neg hq] at h4
  rw [← h4]
  congr 1
  by_cases q : y < 1 + (codes.length : Int)
  · rw [if_pos q, if_pos (by omega)]; omega
  · rw [if_neg q, if_neg (by omega)]; omega
theorem up_end' {codes : List Int} {y z : Int} {r : Nat × Nat} (h4 : upK codes (y - 1).toNat (-z).toNat = r) (ha : 1 ≤ y) (hb : y ≤ 1 + (codes.length : Int)) (h3 : z ≤ 0) (h1 : ¬ z < 0 ∨ ¬ 1 < y) : y = 1 + (r.1 : Int) ∧ z = -(r.2 : Int) := up_end ⟨ha, hb, h3, h4⟩ h1
theorem dn_end' {codes : List Int} {y z : Int} {r : Int × Int} (h4 : dnK codes (y - 1).toNat z.toNat = r) (ha : 1 ≤ y) (hb : y ≤ 1 + (codes.length : Int)) (h3 : 0 ≤ z) (h1 : ¬ 0 < z) : r = (y, 0) := dn_end ⟨ha, hb, h3, h4⟩ h1
theorem dn_ret' {codes : List Int} {y z : Int} {r : Int × Int} (h4 : dnK codes (y - 1).toNat z.toNat = r) (ha : 1 ≤ y) (hb : y ≤ 1 + (codes.length : Int)) (h3 : 0 ≤ z) (h1 : 0 < z) (h2 : nsV codes (y - 1).toNat < 0) : r = (1 + (codes.length : Int), z - (if decide (y < 1 + (codes.length : Int)) = true then 1 else 0)) := by
  simp only [decide_eq_true_eq]
  exact dn_ret ⟨ha, hb, h3, h4⟩ h1 h2
set_option maxHeartbeats 8000000 in
theorem lines_target_ {v : Addr} {codes : List Int} {x many : Int} {tx ty : Tok} (hv : ViewAt news v codes) (hx : 1 ≤ x ∧ x ≤ 1 + (codes.length : Int)) :
    Cl w loose mean mg mb 42 news [.ref v, .int x tx, .int many ty] 4 (PT news (ltV codes x many).1 (ltV codes x many).2) := by
  obtain ⟨dx, lc, hh1, hh2, k1, k2, k3, n, nn, vs, h1, h2, h3, h4, h5⟩ := hv.is
  k_with_none
  w_top off
  unfold Cl
  k_fill
  intro dp un gd cn cs a ccd cl outer A₀ base h₀ L m s Q E B F X N T hk hd hu hret
  k_with "state" => first | exact up_turn ⟨by assumption, by assumption, by assumption, by assumption⟩ (by assumption) (by assumption) | exact up_start hx (by assumption)
  k_with "exec While BoolOp cons nil" => k_while (fun _ y z => 1 ≤ y ∧ y ≤ 1 + (codes.length : Int) ∧ z ≤ 0 ∧ upK codes (y - 1).toNat (-z).toNat = upK codes (lsN codes (x - 1).toNat) (-many).toNat) (fun _ _ z => (-z).toNat) "at" "many"
  k_with "state" => first | exact dn_turn ⟨by assumption, by assumption, by assumption, by assumption⟩ (by assumption) (by assumption) | exact ⟨hx.1, hx.2, by omega, rfl⟩
  k_with "exec While Compare cons nil" => k_while (fun _ y z => 1 ≤ y ∧ y ≤ 1 + (codes.length : Int) ∧ 0 ≤ z ∧ dnK codes (y - 1).toNat z.toNat = dnK codes (x - 1).toNat many.toNat) (fun _ _ z => z.toNat) "at" "many"
  refine wpAny_call ?_
  k_dflt cell_enter
  k_steps
  · obtain ⟨e1, e2⟩ := up_end' (by with_reducible assumption) (by assumption) (by assumption) (by assumption) (by right; assumption)
    have e : ltV codes x many = _ := if_pos (by assumption)
    rw [e] at hret
    subst e1 e2
    exact hret _ _ _ _ (by k_asm) (by k_asm) ⟨_, _, _, rfl, rfl, by assumption⟩
  · obtain ⟨e1, e2⟩ := up_end' (by with_reducible assumption) (by assumption) (by assumption) (by assumption) (by left; assumption)
    have e : ltV codes x many = _ := if_pos (by assumption)
    rw [e] at hret
    subst e1 e2
    exact hret _ _ _ _ (by k_asm) (by k_asm) ⟨_, _, _, rfl, rfl, by assumption⟩
  · have e := dn_ret' (by with_reducible assumption) (by assumption) (by assumption) (by assumption) (by assumption) (by assumption)
    have e0 : ltV codes x many = _ := if_neg (by assumption)
    rw [e0, e] at hret
    exact hret _ _ _ _ (by k_asm) (by k_asm) ⟨_, _, _, rfl, rfl, by assumption⟩
  · have e := dn_end' (by with_reducible assumption) (by assumption) (by assumption) (by assumption) (by assumption)
    have e0 : ltV codes x many = _ := if_neg (by assumption)
    rw [e0, e] at hret
    exact hret _ _ _ _ (by k_asm) (by k_asm) ⟨_, _, _, rfl, rfl, by assumption⟩
set_option hygiene false in
local macro_rules | `(tactic| walk_at "call ref") => `(tactic| (k_here; k_dflt (show wpAny _ _ (call (Value.ref 42) [Value.ref _, Value.int _ _, Value.int _ _]) _ _ _; refine' cl_go (lines_target_ ?k0 ?j0) ?k1 ?_; walk_at "np t"; (case j0 => (first | omega | exact clamp_in _ _)); walk_at "np PT")))
set_option maxHeartbeats 8000000 in
theorem chars_target_ {v : Addr} {codes : List Int} {x many : Int} {tx ty : Tok} (hv : ViewAt news v codes) :
    Cl w loose mean mg mb 63 news [.ref v, .int x tx, .int many ty] 3 (PTS news (clampV codes (x + many)) (wordOf (clampV codes (x + many)) (x + many))) := by
  k_with_none
  w_top off
  unfold Cl
  k_fill
  intro dp un gd cn cs a ccd cl outer A₀ base h₀ L m s Q E B F X N T hk hd hu hret
  refine wpAny_call ?_
  k_dflt cell_enter
  k_steps
  · have e : wordOf (clampV codes (x + many)) (x + many) = _ := if_pos (by assumption)
    rw [e] at hret
    exact hret _ _ _ _ (by k_asm) (by k_asm) ⟨_, _, _, rfl, rfl, by assumption⟩
  · have e : wordOf (clampV codes (x + many)) (x + many) = _ := (if_neg (by assumption)).trans (if_pos (by assumption))
    rw [e] at hret
    exact hret _ _ _ _ (by k_asm) (by k_asm) ⟨_, _, _, rfl, rfl, by assumption⟩
  · have e : wordOf (clampV codes (x + many)) (x + many) = _ := (if_neg (by assumption)).trans (if_neg (by assumption))
    rw [e] at hret
    exact hret _ _ _ _ (by k_asm) (by k_asm) ⟨_, _, _, rfl, rfl, by assumption⟩
set_option hygiene false in
local macro_rules | `(tactic| walk_at "call ref") => `(tactic| (k_here; k_dflt (show wpAny _ _ (call (Value.ref 63) [Value.ref _, Value.int _ _, Value.int _ _]) _ _ _; refine' cl_go (chars_target_ ?k0) ?k1 ?_; walk_at "np t"; walk_at "np PT")))
set_option maxHeartbeats 8000000 in
theorem tenths_of_ {v : Addr} {codes : List Int} {x : Int} {tx : Tok} (hv : ViewAt news v codes) (hx : 0 ≤ x ∧ x ≤ 10) :
    Cl w loose mean mg mb 70 news [.ref v, .int x tx] 2 (PI news (Int.fdiv (x * (codes.length : Int)) 10)) := by
  obtain ⟨dx, lc, hh1, hh2, k1, k2, k3, n, nn, vs, h1, h2, h3, h4, h5⟩ := hv.is
  k_with_none
  w_top off
  unfold Cl
  k_fill
  intro dp un gd cn cs a ccd cl outer A₀ base h₀ L m s Q E B F X N T hk hd hu hret
  refine wpAny_call ?_
  k_dflt cell_enter
  k_steps
  all_goals exact hret _ _ _ _ (by k_asm) (by k_asm) ⟨rfl, _, congrArg (Value.int · _) (by congr 2; omega)⟩
set_option hygiene false in
local macro_rules | `(tactic| walk_at "call ref") => `(tactic| (k_here; k_dflt (show wpAny _ _ (call (Value.ref 70) [Value.ref _, Value.int _ _]) _ _ _; refine' cl_go (tenths_of_ ?k0 ?j0) ?k1 ?_; walk_at "np t"; (case j0 => omega); walk_at "np PI")))
set_option maxHeartbeats 8000000 in
theorem begin_none_ {v : Addr} {codes : List Int} (hv : ViewAt news v codes) :
    Cl w loose mean mg mb 77 news [.ref v, .none] 3 (PI news 1) := by
  obtain ⟨dx, lc, hh1, hh2, k1, k2, k3, n, nn, vs, h1, h2, h3, h4, h5⟩ := hv.is
  k_with_none
  w_top off
  unfold Cl
  k_fill
  intro dp un gd cn cs a ccd cl outer A₀ base h₀ L m s Q E B F X N T hk hd hu hret
  refine wpAny_call ?_
  k_dflt cell_enter
  k_steps
  all_goals exact hret _ _ _ _ (by k_asm) (by k_asm) ⟨rfl, _, rfl⟩
set_option maxHeartbeats 8000000 in
theorem begin_target_ {v : Addr} {codes : List Int} {x : Int} {tx : Tok} (hv : ViewAt news v codes) (hx : 0 ≤ x ∧ x ≤ 10) :
    Cl w loose mean mg mb 77 news [.ref v, .int x tx] 5 (PI news (ltV codes (clampV codes (1 + Int.fdiv (10 + (codes.length : Int) * x) 10)) 1).1) := by
  obtain ⟨dx, lc, hh1, hh2, k1, k2, k3, n, nn, vs, h1, h2, h3, h4, h5⟩ := hv.is
  k_with_none
  w_top off
  unfold Cl
  k_fill
  intro dp un gd cn cs a ccd cl outer A₀ base h₀ L m s Q E B F X N T hk hd hu hret
  refine wpAny_call ?_
  k_dflt cell_enter
  k_steps
  all_goals exact hret _ _ _ _ (by k_asm) (cb_drop (by k_asm) (fun _ h9 => .tail _ h9)) ⟨rfl, _, congrArg (Value.int · _) (by rw [show 1 + (codes.length : Int) - 1 = (codes.length : Int) from by omega])⟩
set_option maxHeartbeats 8000000 in
theorem line_number_target_ {v : Addr} {codes : List Int} {x : Int} {tx : Tok} (hv : ViewAt news v codes) :
    Cl w loose mean mg mb 91 news [.ref v, .int x tx] 5 (PI news (ltV codes 1 (max 0 (x - 1))).1) := by
  obtain ⟨dx, lc, hh1, hh2, k1, k2, k3, n, nn, vs, h1, h2, h3, h4, h5⟩ := hv.is
  k_with_none
  w_top off
  unfold Cl
  k_fill
  intro dp un gd cn cs a ccd cl outer A₀ base h₀ L m s Q E B F X N T hk hd hu hret
  refine wpAny_call ?_
  k_dflt cell_enter
  k_steps
  all_goals exact hret _ _ _ _ (by k_asm) (cb_drop (by k_asm) (fun _ h9 => .tail _ h9)) ⟨rfl, _, congrArg (Value.int · _) (by congr 2; omega)⟩
set_option hygiene false in
local macro_rules | `(tactic| walk_at "call ref") => `(tactic| (k_here; k_dflt (show wpAny _ _ (call (Value.ref 77) [Value.ref _, Value.none]) _ _ _; refine' cl_go (begin_none_ ?k0) ?k1 ?_; walk_at "np t"; walk_at "np PI")))
set_option hygiene false in
local macro_rules | `(tactic| walk_at "call ref") => `(tactic| (k_here; k_dflt (show wpAny _ _ (call (Value.ref 77) [Value.ref _, Value.int _ _]) _ _ _; refine' cl_go (begin_target_ ?k0 ?j0) ?k1 ?_; walk_at "np t"; (case j0 => omega); walk_at "np PI")))
set_option hygiene false in
local macro_rules | `(tactic| walk_at "call ref") => `(tactic| (k_here; k_dflt (show wpAny _ _ (call (Value.ref 91) [Value.ref _, Value.int _ _]) _ _ _; refine' cl_go (line_number_target_ ?k0) ?k1 ?_; walk_at "np t"; walk_at "np PI")))

abbrev PW (news : List (Addr × Obj)) (x : Int) (b : Bool) (r : Value) (nx : List (Addr × Obj)) : Prop := (b = true ∧ PTS news x (Str.ofString "end-of-buffer") r nx) ∨ (b = false ∧ PTS news x (Str.ofString "") r nx)
abbrev PU (news : List (Addr × Obj)) (x y : Int) (r : Value) (nx : List (Addr × Obj)) : Prop := (y = 0 ∧ PTS news x (Str.ofString "") r nx) ∨ (y ≠ 0 ∧ PTS news x (Str.ofString "beginning-of-buffer") r nx)
def dwK (codes : List Int) : Nat → Nat → Nat × Bool
  | a, 0 => (a, false)
  | a, k + 1 => if leN codes a = codes.length then (codes.length, true) else dwK codes (leN codes a + 1) k
theorem dw_start {codes : List Int} {x : Int} {k : Nat} (hx : 1 ≤ x ∧ x ≤ 1 + (codes.length : Int)) : 1 ≤ 1 + (lsN codes (x - 1).toNat : Int) ∧ 1 + (lsN codes (x - 1).toNat : Int) ≤ 1 + (codes.length : Int) ∧ dwK codes (1 + (lsN codes (x - 1).toNat : Int) - 1).toNat (k - ([] : List Int).length) = dwK codes (lsN codes (x - 1).toNat) k := by
  have := lsN_le codes (x - 1).toNat
  refine ⟨by omega, by omega, ?_⟩
  rw [show (1 + (lsN codes (x - 1).toNat : Int) - 1).toNat = lsN codes (x - 1).toNat from by omega]; rfl
theorem dw_turn {codes : List Int} {y a : Int} {pre : List Int} {k : Nat} {r : Nat × Bool} (h : 1 ≤ y ∧ y ≤ 1 + (codes.length : Int) ∧ dwK codes (y - 1).toNat (k - pre.length) = r) (hk : pre.length < k) (hn : 1 + (leN codes (y - 1).toNat : Int) ≠ 1 + (codes.length : Int)) :
    1 ≤ 1 + (leN codes (y - 1).toNat : Int) + 1 ∧ 1 + (leN codes (y - 1).toNat : Int) + 1 ≤ 1 + (codes.length : Int) ∧ dwK codes (1 + (leN codes (y - 1).toNat : Int) + 1 - 1).toNat (k - (pre ++ [a]).length) = r := by
  obtain ⟨ha, hb, h3⟩ := h
  have hl := leN_len codes (y - 1).toNat (by omega)
  refine ⟨by omega, by omega, ?_⟩
  rw [show k - pre.length = (k - (pre ++ [a]).length) + 1 from by simp only [List.length_append, List.length_cons, List.length_nil]; omega, dwK, if_neg (by omega)] at h3
  rw [← h3, show (1 + (leN codes (y - 1).toNat : Int) + 1 - 1).toNat = leN codes (y - 1).toNat + 1 from by omega]
theorem dw_ret {codes : List Int} {y : Int} {pre : List Int} {k : Nat} {r : Nat × Bool} (h3 : dwK codes (y - 1).toNat (k - pre.length) = r) (hk : pre.length < k) (hn : 1 + (leN codes (y - 1).toNat : Int) = 1 + (codes.length : Int)) : 1 + (r.1 : Int) = 1 + (leN codes (y - 1).toNat : Int) ∧ r.2 = true := by
  rw [show k - pre.length = (k - pre.length - 1) + 1 from by omega, dwK, if_pos (by omega)] at h3
  rw [← h3]
  exact ⟨hn.symm, rfl⟩
theorem dw_end {codes : List Int} {y : Int} {pre : List Int} {k : Nat} {r : Nat × Bool} (h3 : dwK codes (y - 1).toNat (k - pre.length) = r) (hk : k ≤ pre.length) (hy : 1 ≤ y) : 1 + (r.1 : Int) = y ∧ r.2 = false := by
  rw [show k - pre.length = 0 from by omega, dwK] at h3
  rw [← h3]
  exact ⟨by show 1 + (((y - 1).toNat : Nat) : Int) = y; omega, rfl⟩
theorem dr_app {a : Addr × Obj} {news own : List (Addr × Obj)} : ∀ p ∈ a :: news, p ∈ a :: (news ++ own) := fun _ h => by
  rcases List.mem_cons.mp h with rfl | h
  · exact .head _
  · exact .tail _ (List.mem_append.mpr (.inl h))
theorem dr_two {a b : Addr × Obj} {news : List (Addr × Obj)} : ∀ p ∈ a :: news, p ∈ a :: b :: news := fun _ h => by
  rcases List.mem_cons.mp h with rfl | h
  · exact .head _
  · exact .tail _ (.tail _ h)
theorem lt_app {d : Addr} {news own : List (Addr × Obj)} (h : ∀ p ∈ news ++ own, p.1 < d) : ∀ p ∈ news, p.1 < d := fun p hp => h p (List.mem_append.mpr (.inl hp))
set_option maxHeartbeats 8000000 in
theorem down_target_ {v : Addr} {codes : List Int} {x many : Int} {tx ty : Tok} (hv : ViewAt news v codes) (hx : 1 ≤ x ∧ x ≤ 1 + (codes.length : Int)) (hm : 0 ≤ many ∧ many ≤ 5) :
    Cl w loose mean mg mb 168 news [.ref v, .int x tx, .int many ty] 3 (PW news (1 + ((dwK codes (lsN codes (x - 1).toNat) many.toNat).1 : Int)) (dwK codes (lsN codes (x - 1).toNat) many.toNat).2) := by
  have hls := lsN_le codes (x - 1).toNat
  obtain ⟨dx, lc, hh1, hh2, k1, k2, k3, n, nn, vs, h1, h2, h3, h4, h5⟩ := hv.is
  k_with_none
  w_top off
  unfold Cl
  k_fill
  intro dp un gd cn cs a ccd cl outer A₀ base h₀ L m s Q E B F X N T hk hd hu hret
  k_with "state" => first | exact dw_turn ⟨by assumption, by assumption, by assumption⟩ (by omega) (by assumption) | exact dw_start hx
  k_with "pyIter ref" => k_state (fun pre y => 1 ≤ y ∧ y ≤ 1 + (codes.length : Int) ∧ dwK codes (y - 1).toNat (many.toNat - pre.length) = dwK codes (lsN codes (x - 1).toNat) many.toNat) "at"
  refine wpAny_call ?_
  k_dflt cell_enter
  k_steps
  · obtain ⟨e1, e2⟩ := dw_ret (by with_reducible assumption) (by omega) (by assumption)
    rw [e1, e2] at hret
    exact hret _ _ _ _ (by k_asm) (cb_drop (by k_asm) dr_app) (.inl ⟨rfl, _, _, _, rfl, rfl, lt_app (by assumption)⟩)
  · obtain ⟨e1, e2⟩ := dw_end (by with_reducible assumption) (by rw [rangeKs_length]; omega) (by assumption)
    rw [e1, e2] at hret
    exact hret _ _ _ _ (by k_asm) (by k_asm) (.inr ⟨rfl, _, _, _, rfl, rfl, by assumption⟩)
set_option hygiene false in
local macro_rules | `(tactic| walk_at "call ref") => `(tactic| (k_here; k_dflt (show wpAny _ _ (call (Value.ref 168) [Value.ref _, Value.int _ _, Value.int _ _]) _ _ _; refine' cl_go (down_target_ ?k0 ?j0 ?j1) ?k1 ?_; walk_at "np t"; (case j0 => omega); (case j1 => omega); walk_at "np P2")))
set_option maxHeartbeats 8000000 in
theorem up_target_ {v : Addr} {codes : List Int} {x many : Int} {tx ty : Tok} (hv : ViewAt news v codes) (hx : 1 ≤ x ∧ x ≤ 1 + (codes.length : Int)) :
    Cl w loose mean mg mb 175 news [.ref v, .int x tx, .int many ty] 5 (PU news (ltV codes x (0 - many)).1 (ltV codes x (0 - many)).2) := by
  obtain ⟨dx, lc, hh1, hh2, k1, k2, k3, n, nn, vs, h1, h2, h3, h4, h5⟩ := hv.is
  k_with_none
  w_top off
  unfold Cl
  k_fill
  intro dp un gd cn cs a ccd cl outer A₀ base h₀ L m s Q E B F X N T hk hd hu hret
  refine wpAny_call ?_
  k_dflt cell_enter
  k_steps
  · exact hret _ _ _ _ (by k_asm) (cb_drop (by k_asm) dr_two) (.inl ⟨by assumption, _, _, _, rfl, rfl, kst_ltOf (And.right (by assumption))⟩)
  · exact hret _ _ _ _ (by k_asm) (cb_drop (by k_asm) dr_two) (.inr ⟨by assumption, _, _, _, rfl, rfl, kst_ltOf (And.right (by assumption))⟩)
set_option hygiene false in
local macro_rules | `(tactic| walk_at "call ref") => `(tactic| (k_here; k_dflt (show wpAny _ _ (call (Value.ref 175) [Value.ref _, Value.int _ _, Value.int _ _]) _ _ _; refine' cl_go (up_target_ ?k0 ?j0) ?k1 ?_; walk_at "np t"; (case j0 => omega); walk_at "np P2")))

abbrev goalD (hh1 hh2 hh3 : Int) (k1 k2 k3 n : Nat) (col : Value) (ie : Bool) : Obj := dictOf [⟨hh1, .str (Str.ofString "column") k1, col⟩, ⟨hh2, .str (Str.ofString "is_end") k2, .bool ie⟩, ⟨hh3, .str (Str.ofString "fixed") k3, .none⟩] n
structure GoalAt (news : List (Addr × Obj)) (g : Addr) (col : Value) (ie : Bool) : Prop where
  is : ∃ (gd : Addr) (hh1 hh2 hh3 : Int) (k1 k2 k3 n : Nat), (g, instObj 157 gd) ∈ news ∧ (gd, dictOf [⟨hh1, .str (Str.ofString "column") k1, col⟩, ⟨hh2, .str (Str.ofString "is_end") k2, .bool ie⟩, ⟨hh3, .str (Str.ofString "fixed") k3, .none⟩] n) ∈ news
theorem GoalAt.mono {news news' : List (Addr × Obj)} {g : Addr} {col : Value} {ie : Bool} (h : GoalAt news g col ie) (hs : ∀ p ∈ news, p ∈ news') : GoalAt news' g col ie := by
  obtain ⟨gd, hh1, hh2, hh3, k1, k2, k3, n, h1, h2⟩ := h.is
  exact ⟨gd, hh1, hh2, hh3, k1, k2, k3, n, hs _ h1, hs _ h2⟩
theorem goal_cons {news : List (Addr × Obj)} {g : Addr} {col : Value} {ie : Bool} {p : Addr × Obj} (h : GoalAt news g col ie) : GoalAt (p :: news) g col ie := h.mono fun _ hp => .tail _ hp
theorem goal_app {news own : List (Addr × Obj)} {g : Addr} {col : Value} {ie : Bool} (h : GoalAt news g col ie) : GoalAt (news ++ own) g col ie := h.mono fun _ hp => List.mem_append.mpr (.inl hp)
def placeOn (codes : List Int) (b c : Int) (ie : Bool) (x : Int) : Int :=
  if ie = true then 1 + (leN codes (x - 1).toNat : Int) else 1 + (lsN codes (x - 1).toNat : Int) + (paK codes b c (lsN codes (x - 1).toNat) (leN codes (x - 1).toNat) 0 : Int)
set_option maxHeartbeats 8000000 in
theorem place_on_ {v g : Addr} {codes : List Int} {x b c : Int} {ie : Bool} {tx ty tc : Tok} (hv : ViewAt news v codes) (hg : GoalAt news g (.int c tc) ie) (hx : 1 ≤ x ∧ x ≤ 1 + (codes.length : Int)) (hb : 1 ≤ b) :
    Cl w loose mean mg mb 154 news [.ref g, .ref v, .int x tx, .int b ty] 4 (PI news (placeOn codes b c ie x)) := by
  obtain ⟨gd, gh1, gh2, gh3, g1, g2, g3, gn, hg1, hg2⟩ := hg.is
  obtain ⟨dx, lc, hh1, hh2, k1, k2, k3, n, nn, vs, h1, h2, h3, h4, h5⟩ := hv.is
  cases ie
  · k_with_none
    w_top off
    unfold Cl
    k_fill
    intro dp un gd cn cs a ccd cl outer A₀ base h₀ L m s Q E B F X N T hk hd hu hret
    refine wpAny_call ?_
    k_dflt cell_enter
    k_steps
    exact hret _ _ _ _ (by k_asm) (cb_drop (by k_asm) (fun _ h9 => .tail _ h9)) ⟨rfl, _, rfl⟩
  · k_with_none
    w_top off
    unfold Cl
    k_fill
    intro dp un gd cn cs a ccd cl outer A₀ base h₀ L m s Q E B F X N T hk hd hu hret
    refine wpAny_call ?_
    k_dflt cell_enter
    k_steps
    exact hret _ _ _ _ (by k_asm) (by k_asm) ⟨rfl, _, rfl⟩
local macro_rules | `(tactic| tb_rel) => `(tactic| first | (with_reducible assumption) | exact goal_cons (by tb_rel) | exact goal_app (by tb_rel))
set_option hygiene false in
local macro_rules | `(tactic| walk_at "call ref") => `(tactic| (k_here; k_dflt (show wpAny _ _ (call (Value.ref 154) [Value.ref _, Value.ref _, Value.int _ _, Value.int _ _]) _ _ _; refine' cl_go (place_on_ ?k0 ?j2 ?j0 ?j1) ?k1 ?_; walk_at "np t"; (case j0 => omega); (case j1 => omega); (case j2 => tb_rel); walk_at "np PI")))

abbrev PG (news : List (Addr × Obj)) (codes : List Int) (b c : Int) (ie : Bool) (x many z : Int) (r : Value) (nx : List (Addr × Obj)) : Prop :=
  (0 ≤ many ∧ (dwK codes (lsN codes (x - 1).toNat) many.toNat).2 = true ∧ PTS news (1 + ((dwK codes (lsN codes (x - 1).toNat) many.toNat).1 : Int)) (Str.ofString "end-of-buffer") r nx) ∨
  (0 ≤ many ∧ (dwK codes (lsN codes (x - 1).toNat) many.toNat).2 = false ∧ PTS news (placeOn codes b c ie (1 + ((dwK codes (lsN codes (x - 1).toNat) many.toNat).1 : Int))) (Str.ofString "") r nx) ∨
  (many < 0 ∧ (ltV codes x z).2 = 0 ∧ PTS news (placeOn codes b c ie (ltV codes x z).1) (Str.ofString "") r nx) ∨
  (many < 0 ∧ (ltV codes x z).2 ≠ 0 ∧ PTS news (ltV codes x z).1 (Str.ofString "beginning-of-buffer") r nx)
theorem dwK_len {codes : List Int} : ∀ (k a : Nat), a ≤ codes.length → (dwK codes a k).1 ≤ codes.length
  | 0, a, h => h
  | k + 1, a, h => by
    unfold dwK
    split
    · exact Nat.le_refl _
    · exact dwK_len k _ (by have := leN_len codes a h; omega)
theorem upK_len {codes : List Int} : ∀ (k a : Nat), a ≤ codes.length → (upK codes a k).1 ≤ codes.length
  | 0, a, h => h
  | k + 1, a, h => by
    unfold upK
    split
    · exact upK_len k _ (by have := lsN_le codes (a - 1); omega)
    · exact h
theorem dw_in {codes : List Int} {x : Int} {k : Nat} (hx : 1 ≤ x ∧ x ≤ 1 + (codes.length : Int)) : 1 ≤ 1 + ((dwK codes (lsN codes (x - 1).toNat) k).1 : Int) ∧ 1 + ((dwK codes (lsN codes (x - 1).toNat) k).1 : Int) ≤ 1 + (codes.length : Int) := by
  have := lsN_le codes (x - 1).toNat
  have := dwK_len (codes := codes) k (lsN codes (x - 1).toNat) (by omega)
  omega
theorem up_in {codes : List Int} {x many : Int} (hx : 1 ≤ x ∧ x ≤ 1 + (codes.length : Int)) (hm : many ≤ 0) : 1 ≤ (ltV codes x many).1 ∧ (ltV codes x many).1 ≤ 1 + (codes.length : Int) := by
  have := lsN_le codes (x - 1).toNat
  have := upK_len (codes := codes) (-many).toNat (lsN codes (x - 1).toNat) (by omega)
  rw [show ltV codes x many = _ from if_pos hm]
  show 1 ≤ 1 + ((upK codes (lsN codes (x - 1).toNat) (-many).toNat).1 : Int) ∧ 1 + ((upK codes (lsN codes (x - 1).toNat) (-many).toNat).1 : Int) ≤ _
  omega
set_option maxHeartbeats 8000000 in
theorem goal_target0 {v g : Addr} {codes : List Int} {x b c many : Int} {ie : Bool} {tx ty tm tc : Tok} (hv : ViewAt news v codes) (hg : GoalAt news g (.int c tc) ie) (hx : 1 ≤ x ∧ x ≤ 1 + (codes.length : Int)) (hb : 1 ≤ b) (hm : -5 ≤ many ∧ many ≤ 5) :
    Cl w loose mean mg mb 182 news [.ref v, .int x tx, .int many tm, .ref g, .int b ty] 6 (PG news codes b c ie x many (0 - (0 - many))) := by
  have hd1 := dw_in (k := many.toNat) hx
  have hu1 : ¬ many < 0 ∨ (1 ≤ (ltV codes x (0 - (0 - many))).1 ∧ (ltV codes x (0 - (0 - many))).1 ≤ 1 + (codes.length : Int)) := by
    by_cases h : many < 0
    · exact .inr (up_in hx (by omega))
    · exact .inl h
  obtain ⟨gd, gh1, gh2, gh3, g1, g2, g3, gn, hg1, hg2⟩ := hg.is
  obtain ⟨dx, lc, hh1, hh2, k1, k2, k3, n, nn, vs, h1, h2, h3, h4, h5⟩ := hv.is
  k_with_none
  w_top off
  unfold Cl
  k_fill
  intro dp un gd cn cs a ccd cl outer A₀ base h₀ L m s Q E B F X N T hk hd hu hret
  refine wpAny_call ?_
  k_dflt cell_enter
  k_steps
  · exact hret _ _ _ _ (by k_asm) (cb_drop (by k_asm) dr_two) (.inl ⟨by assumption, by assumption, _, _, _, rfl, rfl, kst_ltOf (And.right (by assumption))⟩)
  · exact hret _ _ _ _ (by k_asm) (cb_drop (by k_asm) dr_two) (.inr (.inl ⟨by assumption, by assumption, _, _, _, rfl, rfl, kst_ltOf (And.right (by assumption))⟩))
  · exact hret _ _ _ _ (by k_asm) (cb_drop (by k_asm) dr_two) (.inr (.inr (.inl ⟨by omega, by assumption, _, _, _, rfl, rfl, kst_ltOf (And.right (by assumption))⟩)))
  · exact hret _ _ _ _ (by k_asm) (cb_drop (by k_asm) dr_two) (.inr (.inr (.inr ⟨by omega, by assumption, _, _, _, rfl, rfl, kst_ltOf (And.right (by assumption))⟩)))
theorem goal_target_ {v g : Addr} {codes : List Int} {x b c many : Int} {ie : Bool} {tx ty tm tc : Tok} (hv : ViewAt news v codes) (hg : GoalAt news g (.int c tc) ie) (hx : 1 ≤ x ∧ x ≤ 1 + (codes.length : Int)) (hb : 1 ≤ b) (hm : -5 ≤ many ∧ many ≤ 5) :
    Cl w loose mean mg mb 182 news [.ref v, .int x tx, .int many tm, .ref g, .int b ty] 6 (PG news codes b c ie x many many) := by
  have h := goal_target0 (w := w) (loose := loose) (mean := mean) (mg := mg) (mb := mb) (tx := tx) (ty := ty) (tm := tm) hv hg hx hb hm
  rw [show 0 - (0 - many) = many from by omega] at h
  exact h
local macro_rules | `(tactic| walk_at "np 182") => `(tactic| (k_whole; intro r9 nx9 h9 tk9 F9 N9 p9; ((rcases p9 with ⟨c9, d9, l9, t9, u9, e8, e9, q9⟩ | ⟨c9, d9, l9, t9, u9, e8, e9, q9⟩ | ⟨c9, d9, l9, t9, u9, e8, e9, q9⟩ | ⟨c9, d9, l9, t9, u9, e8, e9, q9⟩) <;> (subst e8; subst e9; (try k_lt q9))); (try dsimp only); (try k_fold)))
set_option hygiene false in
local macro_rules | `(tactic| walk_at "call ref") => `(tactic| (k_here; k_dflt (show wpAny _ _ (call (Value.ref 182) [Value.ref _, Value.int _ _, Value.int _ _, Value.ref _, Value.int _ _]) _ _ _; refine' cl_go (goal_target_ ?k0 ?j3 ?j0 ?j1 ?j2) ?k1 ?_; walk_at "np t"; (case j0 => omega); (case j1 => omega); (case j2 => omega); (case j3 => tb_rel); walk_at "np 182")))

abbrev goalE (hh1 hh2 hh3 : Int) (k1 k2 k3 n : Nat) (col : Value) (ie : Bool) : Obj := dictOf [⟨hh1, .str (Str.ofString "column") k1, col⟩, ⟨hh2, .str (Str.ofString "is_end") k2, .bool ie⟩, ⟨hh3, .str (Str.ofString "fixed") k3, .none⟩] n
theorem upd_mid {d : Addr} {o o' : Obj} (om : Obj) : ∀ {l l' : List (Addr × Obj)}, Upd d o o' l l' → ∃ lm, Upd d o om l lm ∧ Upd d om o' lm l'
  | _, _, .head h => ⟨_, .head h, .head h⟩
  | _, _, .tail h u => let ⟨lm, a, b⟩ := upd_mid om u; ⟨_, .tail h a, .tail h b⟩
theorem upd_other {d : Addr} {o o' : Obj} {l l' : List (Addr × Obj)} (u : Upd d o o' l l') {p : Addr × Obj} (hp : p ∈ l) (hne : p.1 ≠ d) : p ∈ l' := by
  obtain ⟨pre, post, rfl, rfl, _, _⟩ := u.split
  rcases List.mem_append.mp hp with h | h
  · exact List.mem_append.mpr (.inl h)
  · rcases List.mem_cons.mp h with rfl | h
    · exact absurd rfl hne
    · exact List.mem_append.mpr (.inr (.tail _ h))
theorem upd_old {d : Addr} {o o' : Obj} {l l' : List (Addr × Obj)} (u : Upd d o o' l l') : (d, o) ∈ l := by
  obtain ⟨pre, post, rfl, rfl, _, _⟩ := u.split
  exact List.mem_append.mpr (.inr (.head _))
theorem upd_new {d : Addr} {o o' : Obj} {l l' : List (Addr × Obj)} (u : Upd d o o' l l') : (d, o') ∈ l' := by
  obtain ⟨pre, post, rfl, rfl, _, _⟩ := u.split
  exact List.mem_append.mpr (.inr (.head _))
/-- the object at the address is another one -/
theorem ne_of_obj {h₀ h : Heap} {L d e : Addr} {o p : Obj} {news : List (Addr × Obj)} (N : News h₀ L h news) (hd : (d, o) ∈ news) (he : (e, p) ∈ news) (hne : o ≠ p) : e ≠ d := fun q => by
  subst q
  exact hne (Option.some.inj ((N _ hd).1.symm.trans (N _ he).1))
theorem view_upd {h₀ h : Heap} {L d v : Addr} {codes : List Int} {o o' : Obj} {news nx : List (Addr × Obj)} (N : News h₀ L h news) (hv : ViewAt news v codes) (u : Upd d o o' news nx) (ho : ∃ e1 e2 e3 n, o = dictOf [e1, e2, e3] n) : ViewAt nx v codes := by
  obtain ⟨dx, lc, hh1, hh2, k1, k2, k3, n, nn, vs, h1, h2, h3, h4⟩ := hv.is
  obtain ⟨e1, e2, e3, n', rfl⟩ := ho
  have hd := upd_old u
  refine ⟨dx, lc, hh1, hh2, k1, k2, k3, n, nn, vs, upd_other u h1 ?_, upd_other u h2 ?_, upd_other u h3 ?_, h4⟩
  · exact ne_of_obj N hd h1 (fun q => by have := congrArg Obj.cls q; cases this)
  · exact ne_of_obj N hd h2 (fun q => by have := congrArg Obj.data q; injection this with e _; have := congrArg Array.size e; simp at this)
  · exact ne_of_obj N hd h3 (fun q => by have := congrArg Obj.cls q; simp at this)
def beginIe (codes : List Int) (f : Bool) (x : Int) : Bool := f && (isEnd codes x && decide (1 + (lsN codes (x - 1).toNat : Int) < x))
local macro_rules | `(tactic| k_upd) => `(tactic| with_reducible assumption)
set_option maxHeartbeats 8000000 in
theorem goal_begin_ {v g gx : Addr} {codes : List Int} {x b : Int} {ie f : Bool} {tx ty : Tok} {ga gb gc : Int} {gk1 gk2 gk3 : Nat} {col : Value} {nx : Tok → List (Addr × Obj)} (hv : ViewAt news v codes) (hg : (g, instObj 157 gx) ∈ news)
    (hU : ∀ t, Upd gx (goalE ga gb gc gk1 gk2 gk3 3 col ie) (goalE ga gb gc gk1 gk2 gk3 3 (.int (colF codes b (lsN codes (x - 1).toNat) ((x - 1).toNat - lsN codes (x - 1).toNat)) t) (beginIe codes f x)) news (nx t)) (hx : 1 ≤ x ∧ x ≤ 1 + (codes.length : Int)) (hb : 1 ≤ b) :
    Cl w loose mean mg mb 133 news [.ref g, .ref v, .int x tx, .int b ty, .bool f] 5 (fun r nx' => r = .none ∧ ∃ t, nx' = nx t) := by
  have hgd := upd_old (hU 0)
  obtain ⟨lm, hM⟩ := Classical.axiomOfChoice (fun t => upd_mid (goalE ga gb gc gk1 gk2 gk3 3 (.int (colF codes b (lsN codes (x - 1).toNat) ((x - 1).toNat - lsN codes (x - 1).toNat)) t) ie) (hU t))
  have hM1 := fun t => (hM t).1
  have hM2 : ∀ t bb, bb = beginIe codes f x → Upd gx (goalE ga gb gc gk1 gk2 gk3 3 (.int (colF codes b (lsN codes (x - 1).toNat) ((x - 1).toNat - lsN codes (x - 1).toNat)) t) ie) (goalE ga gb gc gk1 gk2 gk3 3 (.int (colF codes b (lsN codes (x - 1).toNat) ((x - 1).toNat - lsN codes (x - 1).toNat)) t) bb) (lm t) (nx t) := fun t _ e => e ▸ (hM t).2
  clear hM
  dsimp only [goalE] at hgd hM1 hM2
  obtain ⟨dx, lc, hh1, hh2, k1, k2, k3, n, nn, vs, h1, h2, h3, h4, h5⟩ := hv.is
  k_with_none
  w_top off
  unfold Cl
  k_fill
  intro dp un gd cn cs a ccd cl outer A₀ base h₀ L m s Q E B F X N T hk hd hu hret
  have hV : ∀ t {h₀ h : Heap} {L : Addr}, News h₀ L h (lm t) → ViewAt (lm t) v codes := fun t _ _ _ _ => view_upd N hv (hM1 t) ⟨_, _, _, _, rfl⟩
  have hI : ∀ t {h₀ h : Heap} {L : Addr}, News h₀ L h (lm t) → (g, instObj 157 gx) ∈ lm t := fun t _ _ _ _ => upd_other (hM1 t) hg (ne_of_obj N hgd hg (fun q => by have := congrArg Obj.cls q; cases this))
  have hJ := fun (t : Tok) (h₀ h : Heap) (L : Addr) (_ : News h₀ L h (lm t)) => upd_new (hM1 t)
  refine wpAny_call ?_
  k_dflt cell_enter
  k_steps
  refine' set_dict ?k1 ?k2 ?k3 ?k4 ?k5 ?k6 ?k7 ?k8 ?k9 ?k10 ?k11 ?k12 ?k13 ?_; (case k1 => k_asm); (case k2 => k_asm); (case k3 => k_asm); (case k4 => k_inst); (case k5 => exact rfl); (case k6 => k_is); (case k7 => k_is); (case k8 => k_is); (case k9 => k_is); (case k10 => k_get); (case k11 => k_put); (case k12 => exact hM1 _); (case k13 => exact Nat.le_of_ble_eq_true rfl)
  intro h2 F2 N2
  have q1 := hV _ N2
  have q2 := hI _ N2
  have q3 := hJ _ _ _ _ N2
  obtain ⟨dx', lc', _, _, _, _, _, _, _, vs', p1, p2, p3, p4, p5⟩ := q1.is
  dsimp only
  k_steps

  all_goals (refine' set_dict ?k1 ?k2 ?k3 ?k4 ?k5 ?k6 ?k7 ?k8 ?k9 ?k10 ?k11 ?k12 ?k13 ?_; (case k1 => k_asm); (case k2 => k_asm); (case k3 => k_asm); (case k4 => k_inst); (case k5 => exact rfl); (case k6 => k_is); (case k7 => k_is); (case k8 => k_is); (case k9 => k_is); (case k10 => k_get); (case k11 => k_put); (case k12 => exact hM2 _ _ (by simp [beginIe, *])); (case k13 => exact Nat.le_of_ble_eq_true rfl))
  all_goals (
    intro h3 F3 N3
    dsimp only
    k_steps)
  all_goals exact hret _ _ _ _ (by k_asm) (by k_asm) ⟨rfl, _, rfl⟩

def DeckOk (ds : List Int) : Prop := 1 ≤ ds.length ∧ ds.length ≤ 25 ∧ ∀ z ∈ ds, 0 ≤ z
abbrev PD (d : Addr) (news : List (Addr × Obj)) (many : Int) (r : Value) (nx : List (Addr × Obj)) : Prop :=
  ∃ (q : Int) (t : Tok) (vs' : List Value) (ds' : List Int) (n' : Nat), r = .int q t ∧ nx = (d, listOf vs'.toArray n') :: news ∧ IntsAre vs' ds' ∧ DeckOk ds' ∧ 0 ≤ q ∧ q < many
theorem pop0 {prog : Program} {w : World} {A : Around} {E : Value → Shared → Prop} {s : Shared} {h₀ : Heap} {L D : Addr} {m : Str → Option Value} {news news' : List (Addr × Obj)} {n : Nat} {us : List Value} {l : List Int} {u : Tok} {Q : Value → Shared → Prop}
    (F : Fr h₀ L s.heap m) (N : News h₀ L s.heap news) (hi : IntsAre us l) (U : Upd D (listOf us.toArray n) (listOf us.tail.toArray (n + 1)) news news') (hne : 0 < l.length) (hz : l.length ≤ 1000)
    (h : ∀ h' t, Fr h₀ L h' m → News h₀ L h' news' → IntsAre us.tail l.tail → Q (.int (l.headD 0) t) { s with heap := h' }) : wpAny (model prog w) A (call (.builtin "list.pop") [.ref D, .int 0 u]) Q E s := by
  cases hi with
  | nil => exact absurd hne (Nat.lt_irrefl _)
  | cons k t hi' =>
    rename_i vs' ns'
    have hl := hi'.length
    refine kl_popAt (k := 0) (p := []) (y := .int k t) (q := vs') F N rfl ?_ rfl U ?_ fun h' F' N' => h h' t F' N' hi'
    · simp [seqIndex?]
    · rw [PySem.sizeLine_eq]; simp at hz ⊢; omega
theorem deck_get {l : List Int} (h : 1 ≤ l.length ∧ l.length ≤ 25 ∧ ∀ z ∈ l, 0 ≤ z) : 0 ≤ l.getD (Int.toNat 0) 0 := by
  obtain ⟨h1, _, h3⟩ := h
  cases l with
  | nil => exact absurd h1 (by decide)
  | cons a r => exact h3 a (.head _)
theorem deck_set {l : List Int} {v : Int} (h : 1 ≤ l.length ∧ l.length ≤ 25 ∧ ∀ z ∈ l, 0 ≤ z) (h0 : 0 ≤ v) : DeckOk (l.set (Int.toNat 0) v) := by
  obtain ⟨ha, hb, h3⟩ := h
  refine ⟨by rw [List.length_set]; exact ha, by rw [List.length_set]; exact hb, fun z hz => ?_⟩
  rcases List.mem_or_eq_of_mem_set hz with h | rfl
  · exact h3 z h
  · exact h0
theorem deck_div {l : List Int} {many : Int} (h : 1 ≤ l.length ∧ l.length ≤ 25 ∧ ∀ z ∈ l, 0 ≤ z) (hm : 1 ≤ many) : DeckOk (l.set (Int.toNat 0) ((l.getD (Int.toNat 0) 0).fdiv many)) :=
  deck_set h (Int.fdiv_nonneg (deck_get h) (by omega))
theorem deck_mod {l : List Int} {a : Int} (h : 1 ≤ l.length ∧ l.length ≤ 25 ∧ ∀ z ∈ l, 0 ≤ z) : DeckOk (l.set (Int.toNat 0) (a.fmod 2147483647)) :=
  deck_set h (fmod_lo a (by decide))
theorem deck_tail {l : List Int} (h : 1 ≤ l.length ∧ l.length ≤ 25 ∧ ∀ z ∈ l, 0 ≤ z) (h1 : 1 < (l.length : Int)) : 1 ≤ l.tail.length ∧ l.tail.length ≤ 25 ∧ ∀ z ∈ l.tail, 0 ≤ z :=
  ⟨by rw [List.length_tail]; omega, by rw [List.length_tail]; omega, fun z hz => h.2.2 z (List.mem_of_mem_tail hz)⟩
local macro_rules | `(tactic| walk_at "call builtin:list.pop") => `(tactic| (k_here; (with_reducible show wpAny _ _ (call (Value.builtin _) [Value.ref _, Value.int 0 _]) _ _ _); k_dflt (refine' pop0 ?F ?N ?i ?U ?l ?z ?_; (case F => k_asm); (case N => k_asm); (case i => with_reducible assumption); (case U => k_upd); (case l => omega); (case z => omega)); (intro h' t' F' N' hI'; (try dsimp only [List.nil_append, List.cons_append] at N'))))
local macro_rules | `(tactic| k_all) => `(tactic| with_reducible assumption)
set_option maxHeartbeats 8000000 in
theorem draw_head {d : Addr} {vs : List Value} {ds : List Int} {nn : Nat} {many : Int} {tx : Tok} (hi : IntsAre vs ds) (hok : DeckOk ds) (hne : ∀ p ∈ news, p.1 ≠ d) (hm : 1 ≤ many ∧ many ≤ 100) :
    Cl w loose mean mg mb 232 ((d, listOf vs.toArray nn) :: news) [.ref d, .int many tx] 1 (PD d news many) := by
  k_with_none
  w_top off
  unfold Cl
  k_fill
  intro dp un gd cn cs a ccd cl outer A₀ base h₀ L m s Q E B F X N T hk hd hu hret
  k_with "state" => first | exact deck_tail ⟨by assumption, by assumption, by assumption⟩ (by assumption) | exact hok
  k_with "measure" => (simp only [List.length_tail]; omega)
  k_with "exec While BoolOp cons nil" => k_while (fun _ q => 1 ≤ q.length ∧ q.length ≤ 25 ∧ ∀ z ∈ q, 0 ≤ z) (fun _ q => q.length) "_law_deck"
  refine wpAny_call ?_
  k_dflt cell_enter
  k_steps
  · exact hret _ _ _ _ (by k_asm) (by k_asm) ⟨_, _, _, _, _, rfl, rfl, by assumption, deck_div ⟨by assumption, by assumption, by assumption⟩ hm.1, fmod_lo _ (by omega), fmod_hi _ (by omega)⟩
  · exact hret _ _ _ _ (by k_asm) (by k_asm) ⟨_, _, _, _, _, rfl, rfl, by assumption, deck_mod ⟨by assumption, by assumption, by assumption⟩, fmod_lo _ (by omega), fmod_hi _ (by omega)⟩

section
open LCg LCt
variable {prog : Program} {A : Around} {s : Shared} {h₀ : Heap} {L : Addr} {m : Str → Option Value} {env : Env} {ct elt : Expr} {x : Str} {scope : Scope} {cl : List (Str × Addr)} {S : List (Addr × Obj) → Prop} {P : Nat → Value → Prop} {Fin : List Value → List (Addr × Obj) → Prop}
theorem restT {n : Nat} (J : Nat → List Value → List (Addr × Obj) → Prop)
    (turn : ∀ i ys nx v I oI C oC D m₂ h tk (E' : Value → Shared → Prop), i < n → J i ys nx → P i v → NsObj oC m₂ → m₂ x = some v → Fr h₀ L h m → News h₀ L h ((I, oI) :: (C, oC) :: (D, lst ys) :: nx) → Off3 I C D nx → ((@Ne Nat I C) ∧ (@Ne Nat I D) ∧ (@Ne Nat C D)) →
      wpAny (model prog w) A (isTrue ct (compEnvC scope cl C env) (eval ct (compEnvC scope cl C env))) (fun ok s' => if ok = true then
        wpAny (model prog w) A (eval elt (compEnvC scope cl C env)) (CompEnd h₀ L m { s with heap := h, toks := tk } I oI C oC D (lst ys) S (fun y nx' => J (i + 1) (ys ++ [y]) nx')) E' s'
        else CompEnd h₀ L m { s with heap := h, toks := tk } I oI C oC D (lst ys) S (fun _ nx' => J (i + 1) ys nx') Value.none s') E' { s with heap := h, toks := tk })
    (fin : ∀ ys nx, J n ys nx → Fin ys nx) : ∀ (k i : Nat) (ys : List Value) (nx : List (Addr × Obj)), i + k = n → J i ys nx → CompRestT prog w A h₀ L m env ct elt x scope cl s S P Fin k i ys nx
  | 0, i, ys, nx, e, hj => by
    have : i = n := by omega
    subst this
    exact CompRestT.zero (fin ys nx hj)
  | k + 1, i, ys, nx, e, hj => by
    refine CompRestT.succ fun v I oI C oC D m₂ h tk E' hP hC hx F N off ne => ?_
    refine wpAny_mono (turn i ys nx v I oI C oC D m₂ h tk E' (by omega) hj hP hC hx F N off ne) (fun ok s' hs => ?_) fun _ _ e => e
    cases ok with
    | true =>
      simp only [if_true] at hs ⊢
      refine wpAny_mono hs (fun y s₂ h₂ => ?_) fun _ _ e => e
      obtain ⟨h', tk', nw, e1, F', N', o', hS, hJ⟩ := h₂
      exact ⟨h', tk', nw, e1, F', N', o', hS, restT J turn fin k (i + 1) _ nw (by omega) hJ⟩
    | false =>
      simp only [Bool.false_eq_true, if_false] at hs ⊢
      obtain ⟨h', tk', nw, e1, F', N', o', hS, hJ⟩ := hs
      exact ⟨h', tk', nw, e1, F', N', o', hS, restT J turn fin k (i + 1) _ nw (by omega) hJ⟩
theorem restU {n : Nat} (J : Nat → List Value → List (Addr × Obj) → Prop)
    (turn : ∀ i ys nx v I oI C oC D m₂ h tk (E' : Value → Shared → Prop), i < n → J i ys nx → P i v → NsObj oC m₂ → m₂ x = some v → Fr h₀ L h m → News h₀ L h ((I, oI) :: (C, oC) :: (D, lst ys) :: nx) → Off3 I C D nx → ((@Ne Nat I C) ∧ (@Ne Nat I D) ∧ (@Ne Nat C D)) →
      wpAny (model prog w) A (eval elt (compEnvC scope cl C env)) (CompEnd h₀ L m { s with heap := h, toks := tk } I oI C oC D (lst ys) S (fun y nx' => J (i + 1) (ys ++ [y]) nx')) E' { s with heap := h, toks := tk })
    (fin : ∀ ys nx, J n ys nx → Fin ys nx) : ∀ (k i : Nat) (ys : List Value) (nx : List (Addr × Obj)), i + k = n → J i ys nx → CompRest prog w A h₀ L m env elt x scope cl s S P Fin k i ys nx
  | 0, i, ys, nx, e, hj => by
    have : i = n := by omega
    subst this
    exact CompRest.zero (fin ys nx hj)
  | k + 1, i, ys, nx, e, hj => by
    refine CompRest.succ fun v I oI C oC D m₂ h tk E' hP hC hx F N off ne => ?_
    refine wpAny_mono (turn i ys nx v I oI C oC D m₂ h tk E' (by omega) hj hP hC hx F N off ne) (fun y s' hs => ?_) fun _ _ e => e
    obtain ⟨h', tk', nw, e1, F', N', o', hS, hJ⟩ := hs
    exact ⟨h', tk', nw, e1, F', N', o', hS, restU J turn fin k (i + 1) _ nw (by omega) hJ⟩
end
/-- the sources, under names that no line of the walk knows -/
def srcU (prog : Program) (w : World) (A : Around) (h₀ : Heap) (L : Addr) (m : Str → Option Value) (env : Env) (elt : Expr) (x : Str) (scope : Scope) (cl : List (Str × Addr)) (Fin : Shared → List Value → List (Addr × Obj) → Prop) (xv : Value) (s₁ : Shared) : Prop := LCg.CompSrc prog w A h₀ L m env elt x scope cl Fin xv s₁
def srcT (prog : Program) (w : World) (A : Around) (h₀ : Heap) (L : Addr) (m : Str → Option Value) (env : Env) (ct elt : Expr) (x : Str) (scope : Scope) (cl : List (Str × Addr)) (Fin : Shared → List Value → List (Addr × Obj) → Prop) (xv : Value) (s₁ : Shared) : Prop := LCt.CompSrcT prog w A h₀ L m env ct elt x scope cl Fin xv s₁
section
variable {prog : Program} {w : World} {A : Around} {E : Value → Shared → Prop} {s : Shared} {h₀ : Heap} {L : Addr} {m : Str → Option Value} {env : Env}
theorem compU {elt iter : Expr} {x : Str} {px : Pos} {scope : Scope} {cl : List (Str × Addr)} {pos : Pos} {Q : Value → Shared → Prop} (F₀ : Fr h₀ L s.heap m)
    (hclos : closureFor scope env = pure cl) (hcell : ∀ y ∈ scope.names, y.2 ≠ .cell) (hkind : scope.kind = .function)
    (hnames : ∀ y ∈ scope.names, y.2 = .local → scope.names.lookup y.1 = some .local) (hx : scope.names.lookup x = some .local)
    (h : wpAny (model prog w) A (eval iter env) (srcU prog w A h₀ L m env elt x scope cl (fun s₂ => LCg.FinE h₀ L m s₂ Q)) E s)
    (hs : ∀ x, foldedSetIterable iter env x = pure x := by intro _; rfl) :
    wpAny (model prog w) A (eval (.ListComp elt [⟨.Name x px, iter, [], 0⟩] scope pos) env) Q E s := LCg.ListComp_U F₀ hclos hcell hkind hnames hx h hs
theorem compT {ct elt iter : Expr} {x : Str} {px : Pos} {scope : Scope} {cl : List (Str × Addr)} {pos : Pos} {Q : Value → Shared → Prop} (F₀ : Fr h₀ L s.heap m)
    (hclos : closureFor scope env = pure cl) (hcell : ∀ y ∈ scope.names, y.2 ≠ .cell) (hkind : scope.kind = .function)
    (hnames : ∀ y ∈ scope.names, y.2 = .local → scope.names.lookup y.1 = some .local) (hx : scope.names.lookup x = some .local)
    (h : wpAny (model prog w) A (eval iter env) (srcT prog w A h₀ L m env ct elt x scope cl (fun s₂ => LCg.FinE h₀ L m s₂ Q)) E s)
    (hs : ∀ x, foldedSetIterable iter env x = pure x := by intro _; rfl) :
    wpAny (model prog w) A (eval (.ListComp elt [⟨.Name x px, iter, [ct], 0⟩] scope pos) env) Q E s := LCt.ListComp_T F₀ hclos hcell hkind hnames hx h hs
def srcS (prog : Program) (w : World) (A : Around) (h₀ : Heap) (L : Addr) (m : Str → Option Value) (env : Env) (elt : Expr) (x : Str) (scope : Scope) (cl : List (Str × Addr)) (Fin : Shared → List Value → List (Addr × Obj) → Prop) (xv : Value) (s₁ : Shared) : Prop :=
  ∃ xt tx news, xv = .str xt tx ∧ A.handled = none ∧ Fr h₀ L s₁.heap m ∧ News h₀ L s₁.heap news ∧ xt.cps.size ≤ sizeLine ∧
    ∀ s₂ : Shared, (∃ h, s₂ = { s₁ with heap := h }) → LCg.CompRest prog w A h₀ L m env elt x scope cl s₂ (fun _ => True) (SignAt xt) (Fin s₂) xt.cps.size 0 [] news
theorem srcS.intro {elt : Expr} {x : Str} {scope : Scope} {cl : List (Str × Addr)} {Fin : Shared → List Value → List (Addr × Obj) → Prop} {xt : Str} {tx : Tok} {news : List (Addr × Obj)} {s₁ : Shared}
    (hh : A.handled = none) (F : Fr h₀ L s₁.heap m) (N : News h₀ L s₁.heap news) (hsz : xt.cps.size ≤ sizeLine)
    (h : ∀ g, LCg.CompRest prog w A h₀ L m env elt x scope cl { s₁ with heap := g } (fun _ => True) (SignAt xt) (Fin { s₁ with heap := g }) xt.cps.size 0 [] news) :
    srcS prog w A h₀ L m env elt x scope cl Fin (.str xt tx) s₁ := ⟨xt, tx, news, rfl, hh, F, N, hsz, fun _ ⟨g, e⟩ => e ▸ h g⟩
theorem compS {elt iter : Expr} {x : Str} {px : Pos} {scope : Scope} {cl : List (Str × Addr)} {pos : Pos} {Q : Value → Shared → Prop} (_F₀ : Fr h₀ L s.heap m)
    (hclos : closureFor scope env = pure cl) (hcell : ∀ y ∈ scope.names, y.2 ≠ .cell) (hkind : scope.kind = .function)
    (hnames : ∀ y ∈ scope.names, y.2 = .local → scope.names.lookup y.1 = some .local) (hx : scope.names.lookup x = some .local)
    (h : wpAny (model prog w) A (eval iter env) (srcS prog w A h₀ L m env elt x scope cl (fun s₂ => LCg.FinE h₀ L m s₂ Q)) E s)
    (hs : ∀ x, foldedSetIterable iter env x = pure x := by intro _; rfl) :
    wpAny (model prog w) A (eval (.ListComp elt [⟨.Name x px, iter, [], 0⟩] scope pos) env) Q E s := by
  rw [eval_ListComp]
  refine wpAny_comprehension_free (use := none) rfl hs hclos hkind hnames (wpAny_mono h (fun xv s₁ h₁ => ?_) fun _ _ e => e)
  obtain ⟨xt, tx, news, rfl, hh, F, N, hsz, R⟩ := h₁
  cases ha : xt.cps.all (· < 128)
  · refine wpAny_pyIter_wide ha ?_
    refine LCg.block_U (Walks.strWide hh s₁.heap.objs.size xt tx) hsz (fun i h st => by obtain ⟨o, e, _⟩ := st; exact ⟨o, e⟩) (S := fun _ => True) (fun i h h' o' nw st e e' _ _ _ => by
        obtain ⟨o, q, r⟩ := st
        rw [e] at q; cases q
        exact ⟨_, e', r⟩) hcell hkind hx ⟨_, Heap.get?_push_size _ rfl, rfl, rfl⟩ (fun b hb => ?_)
      (F.keeps fun _ _ e => Heap.get?_push_of_some _ e) (N.grown fun _ _ e => Heap.get?_push_of_some _ e) (Nat.ne_of_lt F.ns.lt) (next_is_new F) (fun p hp => Nat.ne_of_lt (Heap.lt_size (N p hp).1)) trivial (R _ ⟨_, rfl⟩) ?_
    · rw [List.mem_singleton.mp hb]
      show s₁.heap.objs.size < (s₁.heap.push _).objs.size
      rw [Heap.size_push]; exact Nat.lt_succ_self _
    · intro D C h tk m' ys news' F' N' o1 hn hC₀ hD₀ hCL hDL hCD offC fin
      refine ⟨m', hn, fun h'' hs'' => fin D h'' tk (F'.change hs'' hCL hC₀) (fun p hp => ?_) o1⟩
      refine ⟨hs''.extBut _ _ ?_ (N' p hp).1, (N' p hp).2⟩
      rcases List.mem_cons.mp hp with rfl | hp
      · exact Ne.symm hCD
      · exact offC p hp
  · refine wpAny_pyIter_ascii ha ?_
    refine LCg.block_U (Walks.strAscii hh s₁.heap.objs.size xt tx) hsz (fun i h st => by obtain ⟨o, e, _⟩ := st; exact ⟨o, e⟩) (S := fun _ => True) (fun i h h' o' nw st e e' _ _ _ => by
        obtain ⟨o, q, r⟩ := st
        rw [e] at q; cases q
        exact ⟨_, e', r⟩) hcell hkind hx ⟨_, Heap.get?_push_size _ rfl, rfl, rfl⟩ (fun b hb => ?_)
      (F.keeps fun _ _ e => Heap.get?_push_of_some _ e) (N.grown fun _ _ e => Heap.get?_push_of_some _ e) (Nat.ne_of_lt F.ns.lt) (next_is_new F) (fun p hp => Nat.ne_of_lt (Heap.lt_size (N p hp).1)) trivial (R _ ⟨_, rfl⟩) ?_
    · rw [List.mem_singleton.mp hb]
      show s₁.heap.objs.size < (s₁.heap.push _).objs.size
      rw [Heap.size_push]; exact Nat.lt_succ_self _
    · intro D C h tk m' ys news' F' N' o1 hn hC₀ hD₀ hCL hDL hCD offC fin
      refine ⟨m', hn, fun h'' hs'' => fin D h'' tk (F'.change hs'' hCL hC₀) (fun p hp => ?_) o1⟩
      refine ⟨hs''.extBut _ _ ?_ (N' p hp).1, (N' p hp).2⟩
      rcases List.mem_cons.mp hp with rfl | hp
      · exact Ne.symm hCD
      · exact offC p hp
theorem asgU {elt iter : Expr} {x y : Str} {px py : Pos} {scope : Scope} {cl : List (Str × Addr)} {pos spos : Pos} {Q : Flow → Shared → Prop} (F₀ : Fr h₀ L s.heap m) (hLe : env.locals = L)
    (hsw : swapsWith (.ListComp elt [⟨.Name x px, iter, [], 0⟩] scope pos) (some (.Name y py)) spos.line env = pure true)
    (hclos : closureFor scope env = pure cl) (hcell : ∀ z ∈ scope.names, z.2 ≠ .cell) (hkind : scope.kind = .function)
    (hnames : ∀ z ∈ scope.names, z.2 = .local → scope.names.lookup z.1 = some .local) (hx : scope.names.lookup x = some .local)
    (hy : env.kindOf y = some .local) (hp : (env.scope.kind == .class || (env.scope.kind == .module && env.locals != env.globals)) = false)
    (h : wpAny (model prog w) A (eval iter env) (srcU prog w A h₀ L m env elt x scope cl (fun s₂ => LCg.FinA h₀ L m s₂ y Q)) E s)
    (hs : ∀ x, foldedSetIterable iter env x = pure x := by intro _; rfl) :
    wpAny (model prog w) A (exec (.Assign [.Name y py] (.ListComp elt [⟨.Name x px, iter, [], 0⟩] scope pos) spos) env) Q E s := LCg.Assign_ListComp_U F₀ hLe hsw hclos hcell hkind hnames hx hy hp h hs
end
theorem CompEnd_pure {h₀ : Heap} {L I C D : Addr} {m : Str → Option Value} {oI oC oD : Obj} {S : List (Addr × Obj) → Prop} {rest : Value → List (Addr × Obj) → Prop} {y : Value} {s₁ : Shared} {h' : Heap} {tk : Nat} {nx : List (Addr × Obj)}
    (F : Fr h₀ L h' m) (N : News h₀ L h' ((I, oI) :: (C, oC) :: (D, oD) :: nx)) (off : LCg.Off3 I C D nx) (hS : S nx) (r : rest y nx) : LCg.CompEnd h₀ L m s₁ I oI C oC D oD S rest y { s₁ with heap := h', toks := tk } :=
  LCg.CompEnd.intro F N nx (fun _ h => h) off hS r
theorem ints_item {vs : List Value} {ns : List Int} (hi : IntsAre vs ns) {i : Nat} {v : Value} (h : vs.toArray[i]? = some v) : ∃ k t, ns[i]? = some k ∧ v = .int k t := by
  obtain ⟨k, t, e, hk⟩ := IntsAre.at hi i v (by simpa using h)
  exact ⟨k, t, hk, e⟩
local macro_rules | `(tactic| walk_at "eval ListComp") => `(tactic| (k_here; (with_reducible show wpAny _ _ (eval (Expr.ListComp _ [⟨_, Expr.Constant _ _ _, [], _⟩] _ _) _) _ _ _); k_dflt (refine compS (_F₀ := by k_asm) (by with_unfolding_all rfl) (by decide) (by rfl) (by decide) (by rfl) ?_)))
local macro_rules | `(tactic| walk_at "eval ListComp") => `(tactic| (k_here; (with_reducible show wpAny _ _ (eval (Expr.ListComp _ [⟨_, _, [_], _⟩] _ _) _) _ _ _); k_dflt (refine compT (F₀ := by k_asm) (by with_unfolding_all rfl) (by decide) (by rfl) (by decide) (by rfl) ?_)))
local macro_rules | `(tactic| walk_at "eval ListComp") => `(tactic| (k_here; (with_reducible show wpAny _ _ (eval (Expr.ListComp _ [⟨_, _, [], _⟩] _ _) _) _ _ _); (fail_if_success (with_reducible show wpAny _ _ (eval (Expr.ListComp _ [⟨_, Expr.Constant _ _ _, [], _⟩] _ _) _) _ _ _)); k_dflt (refine compU (F₀ := by k_asm) (by with_unfolding_all rfl) (by decide) (by rfl) (by decide) (by rfl) ?_)))
local macro_rules | `(tactic| walk_at "exec Assign cons ListComp") => `(tactic| (k_here; (with_reducible show wpAny _ _ (exec (Stmt.Assign _ (Expr.ListComp _ [⟨_, _, [], _⟩] _ _) _) _) _ _ _); k_dflt (refine asgU (F₀ := by k_asm) (by rfl) (by with_unfolding_all rfl) (by with_unfolding_all rfl) (by decide) (by rfl) (by decide) (by rfl) (by rfl) (by rfl) ?_)))

theorem mod_forget {prog : Program} {w : World} {A : Around} {E : Value → Shared → Prop} {s : Shared} {a b : Int} {t u : Tok} {Q : Value → Shared → Prop} (hb : 0 < b) (h : ∀ v, 0 ≤ v → v < b → Q (.int v s.toks) { s with toks := s.toks + 1 }) :
    wpAny (model prog w) A (binaryOp .Mod (.int a t) (.int b u)) Q E s := mod_int' (by omega) (h _ (fmod_lo _ hb) (fmod_hi _ hb))
theorem pow_forget {prog : Program} {w : World} {A : Around} {E : Value → Shared → Prop} {s : Shared} {n : Int} {t u : Tok} {Q : Value → Shared → Prop} (h0 : 0 ≤ n) (h1 : n ≤ 1000000) (h : ∀ v, 0 < v → Q (.int v s.toks) { s with toks := s.toks + 1 }) :
    wpAny (model prog w) A (binaryOp .Pow (.int 10 t) (.int n u)) Q E s := pow_int_small h0 h1 (by decide) (h _ (Int.pow_pos (by decide)))
local macro_rules | `(tactic| walk_at "binaryOp Mod int int") => `(tactic| (k_here; k_dflt (refine mod_forget (by first | assumption | decide) ?_); intro v9 h9 h8; (try dsimp only)))
local macro_rules | `(tactic| walk_at "binaryOp Pow int int") => `(tactic| (k_here; k_dflt (refine pow_forget (by decide) (by decide) ?_); intro v9 h9; (try dsimp only)))
local macro_rules | `(tactic| walk_at "exec For Name Subscript cons nil") => `(tactic| (k_here; (rename Fr _ _ _ _ => lF'); (with_unfolding_all refine' For_invVF lF' ?k1 ?k2 ?_; (case k1 => exact rfl); (case k2 => exact rfl); k_whole)))
set_option maxHeartbeats 2000000 in
theorem deck_of_ {l : Addr} {vs : List Value} {ns : List Int} (hi : IntsAre vs ns) (hn : ns.length ≤ 63) :
    ∀ (dp un : Nat) (gd : Option (List Code)) (cn : Str) (cs : Scope) (a : Addr) (ccd : Value) (cl : List (Str × Addr)) (outer : List Env) (A₀ : Around) (base h₀ : Heap) (L : Addr) (m : Str → Option Value) (s : Shared) (Q E : Value → Shared → Prop),
    Below A₀ base outer h₀ → Fr h₀ L s.heap m → (Mine.hd.heap_1 w.params).In h₀ → News h₀ L s.heap news → Top Mine.view_ loose mean mg mb h₀ → cs.kind = .function → base.IsList l vs.toArray →
    dp + 2 < recursionLimit → un + 16 < cLine →
    (∀ (r : Value) (nx : List (Addr × Obj)) (h' : Heap) (tk' : Nat), Fr h₀ L h' m → News h₀ L h' nx → (∃ (d : Addr) (vs' : List Value) (ds : List Int) (n' : Nat), r = .ref d ∧ nx = (d, listOf vs'.toArray n') :: news ∧ IntsAre vs' ds ∧ DeckOk ds ∧ ∀ p ∈ news, p.1 < d) → Q r { s with heap := h', toks := tk' }) →
    wpAny (model PySem.Challenge.rw_np0031_01.row.prog w) (ktrTop dp un gd cn cs L a ccd cl outer) (call (.ref 237) [.ref l]) Q E s := by
  k_fill
  intro dp un gd cn cs a ccd cl outer A₀ base h₀ L m s Q E B F X N T hk hl hd hu hret
  have hl0 : h₀.IsList l vs.toArray := hl.at fun o e => B.stays l o e
  k_with "state" => first | (with_reducible assumption) | exact (by omega)
  k_with "pyIter ref" => k_state (fun _ z => 0 ≤ z) "_law_mixed"
  refine wpAny_call ?_
  k_dflt cell_enter
  k_steps
  refine LCt.CompSrcT.ledger (by rfl) (by k_asm) (by k_asm) (by k_mem) ?_ ?_
  · rename_i hI2 hC2 _ _
    rw [List.size_toArray, hI2.length, hC2, PySem.sizeLine_eq]; omega
  intro g9
  rename_i hI2 hC2 _ _
  refine restT (J := fun i ys nx => nx = _ ∧ ∃ l, IntsAre ys l ∧ l.length ≤ i ∧ ∀ z ∈ l, 0 ≤ z) ?turn ?fin _ 0 [] _ (Nat.zero_add _) ⟨rfl, [], .nil, Nat.le_refl _, fun _ h => nomatch h⟩
  case turn =>
    rintro i ys nx v I oI C oC D m₂ h tk E' hi' ⟨rfl, l9, hl9, hle9, hz9⟩ hP hC' hx' F9 N9 off9 ne9
    obtain ⟨k9, t9, hk9, rfl⟩ := ints_item hI2 hP
    k_steps
    · exact CompEnd_pure F9 N9 off9 (.inr ⟨_, by k_mem, rfl, _, rfl⟩) ⟨rfl, l9 ++ [_], IntsAre.append hl9 (.cons _ _ .nil), by rw [List.length_append]; exact Nat.succ_le_succ hle9, fun z hz => (List.mem_append.mp hz).elim (hz9 z) fun h => by rw [List.mem_singleton.mp h]; assumption⟩
    · exact CompEnd_pure F9 N9 off9 (.inr ⟨_, by k_mem, rfl, _, rfl⟩) ⟨rfl, l9, hl9, Nat.le_succ_of_le hle9, hz9⟩
  case fin =>
    rintro ys nx ⟨rfl, l9, hl9, hle9, hz9⟩
    k_steps
    refine kmk_add_ints (by k_asm) (by k_asm) (News.isList (by k_asm) (by k_mem)) (News.isList (by k_asm) (by k_mem)) hl9 (.cons _ _ .nil) ?_ (by rw [List.length_singleton, PySem.sizeLine_eq]; rw [List.size_toArray, hI2.length, hC2] at hle9; omega)
    intro D9 us9 h9 F9 N9 l9' hI9
    k_steps
    refine hret _ ((D9, listOf us9.toArray 0) :: news) _ _ (by k_asm) (cb_drop (by k_asm) ?_) ⟨D9, us9, _, 0, rfl, rfl, hI9, ⟨by rw [List.length_append]; exact Nat.le_add_left _ _, ?_, fun z hz => (List.mem_append.mp hz).elim (hz9 z) fun h => by rw [List.mem_singleton.mp h]; assumption⟩, fun p hp => l9' p (by repeat (first | exact hp | refine List.mem_cons_of_mem _ ?_))⟩
    · intro p hp
      rcases List.mem_cons.mp hp with rfl | hp
      · k_mem
      · repeat (first | exact hp | refine List.mem_cons_of_mem _ ?_)
    · rw [List.length_append, List.length_singleton]
      rw [List.size_toArray, hI2.length, hC2] at hle9
      omega
local macro_rules | `(tactic| walk_at "call ref") => `(tactic| (k_here; (k_dflt (show wpAny _ _ (call (Value.ref 237) [Value.ref _]) _ _ _)); k_dflt (refine' deck_of_ ?ki ?kn _ _ _ _ _ _ _ _ _ _ _ _ _ _ _ _ _ ?k1 ?k2 ?k3 ?k4 ?k5 ?k6 ?k9 ?k7 ?k8 ?_; (case k1 => k_asm); (case k2 => k_asm); (case k3 => k_asm); (case k4 => k_asm); (case k5 => k_asm); (case k9 => assumption); (case ki => assumption); (case kn => assumption); (case k6 => (first | exact rfl | assumption)); (case k7 => ktr_room); (case k8 => ktr_units); k_whole); intro r9 nx9 h9 tk9 F9 N9 p9; (obtain ⟨d9, us9, ds9, n9, e8, e9, i9, o9, l9⟩ := p9); subst e8; subst e9; (try k_lt l9); (try dsimp only); (try k_fold)))

def setL (d : Addr) (o : Obj) (news : List (Addr × Obj)) : List (Addr × Obj) := news.map fun p => if p.1 = d then (d, o) else p
theorem setL_off {d : Addr} {o : Obj} : ∀ {l : List (Addr × Obj)}, (∀ p ∈ l, p.1 ≠ d) → setL d o l = l
  | [], _ => rfl
  | p :: r, h => by
    show (if p.1 = d then (d, o) else p) :: setL d o r = p :: r
    rw [if_neg (h p (.head _)), setL_off fun q hq => h q (.tail _ hq)]
theorem setL_upd {d : Addr} {o o' : Obj} : ∀ {l l' : List (Addr × Obj)}, Upd d o o' l l' → setL d o' l = l'
  | _, _, .head h => by
    show (if d = d then (d, o') else (d, o)) :: setL d o' _ = _
    rw [if_pos rfl, setL_off h]
  | _, _, .tail (p := p) h u => by
    show (if p.1 = d then (d, o') else p) :: setL d o' _ = _
    rw [if_neg h, setL_upd u]
theorem news_setL {h₀ h : Heap} {L d : Addr} {o o' : Obj} {l l' : List (Addr × Obj)} (N : News h₀ L h (setL d o' l)) (u : Upd d o o' l l') : News h₀ L h l' := setL_upd u ▸ N
theorem news_setL2 {h₀ h : Heap} {L d : Addr} {o o' : Obj} {l l' : List (Addr × Obj)} {p : Addr × Obj} (N : News h₀ L h (p :: setL d o' l)) (u : Upd d o o' l l') : News h₀ L h (p :: l') := setL_upd u ▸ N
theorem mem_setL_ne {d a : Addr} {o x : Obj} {l : List (Addr × Obj)} (h : (a, x) ∈ l) (hne : a ≠ d) : (a, x) ∈ setL d o l := List.mem_map.mpr ⟨(a, x), h, if_neg hne⟩
theorem mem_setL_at {d : Addr} {o x : Obj} {l : List (Addr × Obj)} (h : (d, x) ∈ l) : (d, o) ∈ setL d o l := List.mem_map.mpr ⟨(d, x), h, if_pos rfl⟩
/-- what stands beside the address -/
def offL (d : Addr) (news : List (Addr × Obj)) : List (Addr × Obj) := news.filter fun p => decide (p.1 ≠ d)
theorem offL_ne {d : Addr} {l : List (Addr × Obj)} : ∀ p ∈ offL d l, p.1 ≠ d := fun p hp => of_decide_eq_true (List.mem_filter.mp hp).2
theorem offL_sub {d : Addr} {l : List (Addr × Obj)} : ∀ p ∈ offL d l, p ∈ l := fun p hp => (List.mem_filter.mp hp).1
theorem at_offL {h₀ h : Heap} {L d : Addr} {o : Obj} {l : List (Addr × Obj)} (N : News h₀ L h l) (hd : (d, o) ∈ l) : ∀ p ∈ l, p ∈ (d, o) :: offL d l := fun p hp => by
  by_cases e : p.1 = d
  · obtain ⟨a, x⟩ := p
    simp only at e
    subst e
    have e : some x = some o := (N _ hp).1.symm.trans (N _ hd).1
    rw [Option.some.inj e]
    exact .head _
  · exact .tail _ (List.mem_filter.mpr ⟨hp, decide_eq_true e⟩)
theorem news_offL {h₀ h : Heap} {L d : Addr} {o : Obj} {l : List (Addr × Obj)} (N : News h₀ L h l) (hd : (d, o) ∈ l) : News h₀ L h ((d, o) :: offL d l) := fun p hp => by
  rcases List.mem_cons.mp hp with rfl | hp
  · exact N _ hd
  · exact N _ (offL_sub p hp)
theorem news_ofOff {h₀ h : Heap} {L d : Addr} {o : Obj} {l : List (Addr × Obj)} (N : News h₀ L h ((d, o) :: offL d l)) : News h₀ L h (setL d o l) := fun p hp => by
  obtain ⟨q, hq, rfl⟩ := List.mem_map.mp hp
  by_cases e : q.1 = d
  · simp only [e, if_true]; exact N _ (.head _)
  · simp only [e, if_false]; exact N _ (.tail _ (List.mem_filter.mpr ⟨hq, decide_eq_true e⟩))
abbrev PS (d : Addr) (news : List (Addr × Obj)) (many : Int) (r : Value) (nx : List (Addr × Obj)) : Prop :=
  ∃ (q : Int) (t : Tok) (vs' : List Value) (ds' : List Int) (n' : Nat), r = .int q t ∧ nx = setL d (listOf vs'.toArray n') news ∧ IntsAre vs' ds' ∧ DeckOk ds' ∧ 0 ≤ q ∧ q < many
theorem draw_ {d : Addr} {vs : List Value} {ds : List Int} {nn : Nat} {many : Int} {tx : Tok} (hi : IntsAre vs ds) (hd : (d, listOf vs.toArray nn) ∈ news) (hok : DeckOk ds) (hm : 1 ≤ many ∧ many ≤ 100) :
    Cl w loose mean mg mb 232 news [.ref d, .int many tx] 1 (PS d news many) := by
  intro dp un gd cn cs a ccd cl outer A₀ base h₀ L m s Q E B F X N T hk hd' hu hret
  refine cl_use (draw_head (news := offL d news) (nn := nn) hi hok offL_ne hm) B F X (news_offL N hd) T hk hd' hu ?_
  rintro r nx h' tk' F' N' ⟨q, t, vs', ds', n', rfl, rfl, hi', hok', h0, h1⟩
  exact hret _ _ _ _ F' (news_ofOff N') ⟨q, t, vs', ds', n', rfl, rfl, hi', hok', h0, h1⟩
local macro_rules | `(tactic| k_all) => `(tactic| with_reducible assumption)
local macro_rules | `(tactic| walk_at "np 232") => `(tactic| (k_whole; intro r9 nx9 h9 tk9 F9 N9 p9; (obtain ⟨q9, t9, us9, ds9, n9, e8, e9, i9, o9, l9, u9⟩ := p9); subst e8; subst e9; (replace N9 := news_setL N9 (by k_upd)); (try dsimp only); (try k_fold)))
set_option hygiene false in
local macro_rules | `(tactic| walk_at "call ref") => `(tactic| (k_here; k_dflt (show wpAny _ _ (call (Value.ref 232) [Value.ref _, Value.int _ _]) _ _ _; refine' cl_go (draw_ ?ki ?kd ?ko ?km) ?k1 ?_; walk_at "np s"; (case kd => k_mem); (case ki => assumption); (case ko => assumption); (case km => omega); walk_at "np 232")))
set_option maxHeartbeats 8000000 in
theorem one_ {d : Addr} {vs : List Value} {ds : List Int} {nn : Nat} {tx : Tok} (hi : IntsAre vs ds) (hok : DeckOk ds) (hne : ∀ p ∈ news, p.1 ≠ d) :
    Cl w loose mean mg mb 244 ((d, listOf vs.toArray nn) :: news) [.ref d, .str (Str.ofString "abc
	") tx] 2 (fun r nx => ∃ (c : Nat) (t : Tok) (vs' : List Value) (ds' : List Int) (n' : Nat), r = .str (Str.mk #[c]) t ∧ nx = (d, listOf vs'.toArray n') :: news ∧ IntsAre vs' ds' ∧ DeckOk ds' ∧ (c = 97 ∨ c = 98 ∨ c = 99 ∨ c = 10 ∨ c = 9)) := by
  k_with_none
  w_top off
  unfold Cl
  k_fill
  intro dp un gd cn cs a ccd cl outer A₀ base h₀ L m s Q E B F X N T hk hd hu hret
  refine wpAny_call ?_
  k_dflt cell_enter
  k_steps
  have hc : ∀ q : Int, 0 ≤ q → q < ((5 : Nat) : Int) → ∃ c : Nat, Txt.item (Str.ofString "abc\n\t") q = Str.mk #[c] ∧ (c = 97 ∨ c = 98 ∨ c = 99 ∨ c = 10 ∨ c = 9) := by
    intro q h0 h1
    have : q = 0 ∨ q = 1 ∨ q = 2 ∨ q = 3 ∨ q = 4 := by omega
    rcases this with rfl | rfl | rfl | rfl | rfl
    · exact ⟨97, by decide +kernel, by decide⟩
    · exact ⟨98, by decide +kernel, by decide⟩
    · exact ⟨99, by decide +kernel, by decide⟩
    · exact ⟨10, by decide +kernel, by decide⟩
    · exact ⟨9, by decide +kernel, by decide⟩
  obtain ⟨c, e, h⟩ := hc _ (by with_reducible assumption) (by with_reducible assumption)
  rw [e]
  exact hret _ _ _ _ (by k_asm) (by k_asm) ⟨c, _, _, _, _, rfl, rfl, by assumption, by assumption, h⟩

theorem off1_of {D : Addr} : ∀ {l : List (Addr × Obj)}, (∀ p ∈ l, p.1 ≠ D) → LCg.Off1 D l
  | [], _ => trivial
  | _ :: _, h => ⟨h _ (.head _), off1_of fun p hp => h p (.tail _ hp)⟩
theorem off1_mem {D : Addr} : ∀ {l : List (Addr × Obj)}, LCg.Off1 D l → ∀ p ∈ l, p.1 ≠ D
  | [], _, _, h => nomatch h
  | _ :: _, x, p, h => by
    rcases List.mem_cons.mp h with rfl | h
    · exact x.1
    · exact off1_mem x.2 p h
theorem newsc_of {h₀ h : Heap} {L d : Addr} {o : Obj} {own news : List (Addr × Obj)} (N : News h₀ L h ((d, o) :: offL d (own ++ news))) : News h₀ L h (setL d o (own ++ news)) := news_ofOff N
theorem one_any {d : Addr} {vs : List Value} {ds : List Int} {nn : Nat} {tx : Tok} (hi : IntsAre vs ds) (hd : (d, listOf vs.toArray nn) ∈ news) (hok : DeckOk ds) :
    Cl w loose mean mg mb 244 news [.ref d, .str (Str.ofString "abc\n\t") tx] 2 (fun r nx => ∃ (c : Nat) (t : Tok) (vs' : List Value) (ds' : List Int) (n' : Nat), r = .str (Str.mk #[c]) t ∧ nx = setL d (listOf vs'.toArray n') news ∧ IntsAre vs' ds' ∧ DeckOk ds' ∧ (c = 97 ∨ c = 98 ∨ c = 99 ∨ c = 10 ∨ c = 9)) := by
  intro dp un gd cn cs a ccd cl outer A₀ base h₀ L m s Q E B F X N T hk hd' hu hret
  refine cl_use (one_ (news := offL d news) (nn := nn) hi hok offL_ne) B F X (news_offL N hd) T hk hd' hu ?_
  rintro r nx h' tk' F' N' ⟨c, t, vs', ds', n', rfl, rfl, hi', hok', hc⟩
  exact hret _ _ _ _ F' (news_ofOff N') ⟨c, t, vs', ds', n', rfl, rfl, hi', hok', hc⟩
local macro_rules | `(tactic| walk_at "np 244") => `(tactic| (k_whole; intro r9 nx9 h9 tk9 F9 N9 p9; (obtain ⟨c9, t9, us9, ds9, n9, e8, e9, i9, o9, c8⟩ := p9); subst e8; subst e9; (replace N9 := news_setL N9 (by k_upd)); (try dsimp only); (try k_fold)))
set_option hygiene false in
local macro_rules | `(tactic| walk_at "call ref") => `(tactic| (k_here; k_dflt (show wpAny _ _ (call (Value.ref 244) [Value.ref _, Value.str _ _]) _ _ _; refine' cl_go (one_any ?ki ?kd ?ko) ?k1 ?_; walk_at "np s"; (case kd => k_mem); (case ki => assumption); (case ko => assumption); walk_at "np 244")))
def SomeCodes (cs : List Int) : Prop := ∀ z ∈ cs, z = 97 ∨ z = 98 ∨ z = 99 ∨ z = 10 ∨ z = 9
set_option maxHeartbeats 1000000 in
theorem some_codes_ {d : Addr} {vs : List Value} {ds : List Int} {nn : Nat} {tx ty : Tok} (hi : IntsAre vs ds) (hok : DeckOk ds) (hne : ∀ p ∈ news, p.1 ≠ d) :
    Cl w loose mean mg mb 249 ((d, listOf vs.toArray nn) :: news) [.ref d, .str (Str.ofString "abc\n\t") tx, .int 14 ty] 3 (fun r nx => ∃ (l : Addr) (us : List Value) (cs : List Int) (vs' : List Value) (ds' : List Int) (n' n2 : Nat), r = .ref l ∧ nx = (l, listOf us.toArray n2) :: (d, listOf vs'.toArray n') :: news ∧ IntsAre us cs ∧ SomeCodes cs ∧ cs.length ≤ 14 ∧ IntsAre vs' ds' ∧ DeckOk ds' ∧ d ≠ l ∧ ∀ p ∈ news, p.1 ≠ l) := by
  k_with_none
  w_top off
  unfold Cl
  k_fill
  intro dp un gd cn cs a ccd cl outer A₀ base h₀ L m s Q E B F X N T hk hd hu hret
  refine wpAny_call ?_
  k_dflt (refine' code_defC ?k1 ?k2 ?k3 ?k4 ?k5 ?kA ?kF ?kK ?k6 ?k7 ?k8 ?k9 ?kB ?kD ?_ ?c2 ?c3 ?c4; (case kA => exact rfl); (case kF => exact rfl); (case kK => assumption); (case k1 => k_asm); (case k2 => k_asm); (case k3 => k_asm); (case k4 => k_asm); (case k5 => k_asm); (case k6 => k_is); (case k7 => k_is); (case k8 => ktr_room); (case k9 => exact BindsTo.of_eq rfl); (case kB => exact rfl); (case kD => decide +kernel); (case c2 => exact rfl); (case c3 => exact rfl); (case c4 => exact rfl); k_whole; intro g' L' h' tk' cells' FG' F' N' Y' B' X' T' l1; (try k_lt l1); k_cells Y'; (try simp only [List.cons_append, List.nil_append] at N'); (try dsimp only); (try k_lift B'); (try k_fold))
  k_steps
  unfold srcU
  rename_i o1 o2 e1 e2 _ _ _ q9 _ us9 ds9 n9 i9 o9 q0 q1 _ _ _ _ _ _ _ _ _ _
  refine LCg.CompSrc.range (by rfl) (by k_asm) (by k_asm) (by assumption) (by exact small_one (by omega) (by omega) (by omega) (by omega)) (by first | exact rangeSize_nat _ _ | rfl) (by rw [PySem.sizeLine_eq]; omega) ?_
  intro g9
  refine restU (J := fun i ys nx => ∃ (vs' : List Value) (ds' : List Int) (n' : Nat) (l : List Int), nx = (_, o1) :: (_, o2) :: (d, listOf vs'.toArray n') :: news ∧ IntsAre vs' ds' ∧ DeckOk ds' ∧ IntsAre ys l ∧ l.length ≤ i ∧ SomeCodes l) ?turn ?fin _ 0 [] _ (Nat.zero_add _) ⟨us9, ds9, n9, [], rfl, i9, o9, .nil, Nat.le_refl _, fun _ h => nomatch h⟩
  case turn =>
    rintro i ys nx v I oI C oC D m₂ h tk E' hi' ⟨vs', ds', n', l', rfl, i8, o8, hl', hn', hs'⟩ ⟨t8, rfl⟩ hC' hx' F8 N8 off8 ne8
    have off7 := off8
    simp only [LCg.Off3, and_true] at off7
    k_steps
    (rename News _ _ _ _ => N9)
    exact LCg.CompEnd.intro (by k_asm) N9 ((_, o1) :: (_, o2) :: (d, _) :: news) (fun _ h => h) off8 True.intro ⟨_, _, _, l' ++ [_], rfl, by assumption, by assumption, IntsAre.append hl' (.cons _ _ .nil), by rw [List.length_append]; exact Nat.succ_le_succ hn', fun z hz => (List.mem_append.mp hz).elim (hs' z) fun h => by rw [List.mem_singleton.mp h]; omega⟩
  case fin =>
    rintro ys nx ⟨vs', ds', n', l', rfl, i8, o8, hl', hn', hs'⟩
    k_steps
    have hoff := off1_mem (And.right (And.right (And.right (by assumption))))
    exact hret _ _ _ _ (by k_asm) (cb_drop (by k_asm) (fun p hp => by
      rcases List.mem_cons.mp hp with rfl | hp
      · exact .head _
      · exact .tail _ (.tail _ (.tail _ hp)))) ⟨_, _, l', _, _, _, _, rfl, rfl, hl', hs', by omega, i8, o8, And.left (And.right (And.right (by assumption))), hoff⟩
theorem some_codes_any {d : Addr} {vs : List Value} {ds : List Int} {nn : Nat} {tx ty : Tok} (hi : IntsAre vs ds) (hd : (d, listOf vs.toArray nn) ∈ news) (hok : DeckOk ds) :
    Cl w loose mean mg mb 249 news [.ref d, .str (Str.ofString "abc\n\t") tx, .int 14 ty] 3 (fun r nx => ∃ (l : Addr) (us : List Value) (cs : List Int) (vs' : List Value) (ds' : List Int) (n' n2 : Nat), r = .ref l ∧ nx = (l, listOf us.toArray n2) :: setL d (listOf vs'.toArray n') news ∧ IntsAre us cs ∧ SomeCodes cs ∧ cs.length ≤ 14 ∧ IntsAre vs' ds' ∧ DeckOk ds' ∧ LCg.Off1 l news) := by
  intro dp un gd cn cs a ccd cl outer A₀ base h₀ L m s Q E B F X N T hk hd' hu hret
  refine cl_use (some_codes_ (news := offL d news) (nn := nn) hi hok offL_ne) B F X (news_offL N hd) T hk hd' hu ?_
  rintro r nx h' tk' F' N' ⟨l, us, cs, vs', ds', n', n2, rfl, rfl, hi', hc', hl', hi2, hok', hdl, hnl⟩
  refine hret _ _ _ _ F' (fun p hp => ?_) ⟨l, us, cs, vs', ds', n', n2, rfl, rfl, hi', hc', hl', hi2, hok', off1_of fun p hp => ?_⟩
  rotate_left
  · by_cases e : p.1 = d
    · rw [e]; exact hdl
    · exact hnl p (List.mem_filter.mpr ⟨hp, decide_eq_true e⟩)
  rcases List.mem_cons.mp hp with rfl | hp
  · exact N' _ (.head _)
  · exact news_ofOff (fun q hq => N' q (.tail _ hq)) p hp
local macro_rules | `(tactic| walk_at "np 249") => `(tactic| (k_whole; intro r9 nx9 h9 tk9 F9 N9 p9; (obtain ⟨l9, us9, cs9, vs9, ds9, n9, m9, e8, e9, i9, c9, z9, j9, o9, q9⟩ := p9); subst e8; subst e9; (simp only [LCg.Off1, and_true] at q9); (replace N9 := news_setL2 N9 (by k_upd)); (try dsimp only); (try k_fold)))
set_option hygiene false in
local macro_rules | `(tactic| walk_at "call ref") => `(tactic| (k_here; k_dflt (show wpAny _ _ (call (Value.ref 249) [Value.ref _, Value.str _ _, Value.int _ _]) _ _ _; refine' cl_go (some_codes_any ?ki ?kd ?ko) ?k1 ?_; walk_at "np s"; (case kd => k_mem); (case ki => assumption); (case ko => assumption); walk_at "np 249")))

def Hold (P : Prop) : Prop := P
theorem hold_of {P : Prop} (h : Hold P) : P := h
def nxt (b c k : Int) : Int := if k = 9 then c + (b - Int.fmod c b) else c + 1
def colsG (b : Int) (pre : List Int) : List Int := pre.foldl (fun acc k => acc ++ [nxt b (acc.getLastD 0) k]) [0]
theorem colsG_snoc (b : Int) (pre : List Int) (k : Int) : colsG b (pre ++ [k]) = colsG b pre ++ [nxt b ((colsG b pre).getLastD 0) k] := by
  unfold colsG; rw [List.foldl_append]; rfl
theorem colsG_len (b : Int) (pre : List Int) : (colsG b pre).length = pre.length + 1 := by
  unfold colsG
  have : ∀ (l acc : List Int), (l.foldl (fun acc k => acc ++ [nxt b (acc.getLastD 0) k]) acc).length = acc.length + l.length := by
    intro l
    induction l with
    | nil => intro acc; rfl
    | cons a r ih => intro acc; rw [List.foldl_cons, ih, List.length_append, List.length_singleton, List.length_cons]; omega
  rw [this]; simp; omega
theorem getD_last (l : List Int) (h : 0 < l.length) : l.getD (-1 + (l.length : Int)).toNat 0 = l.getLastD 0 := by
  rw [List.getLastD_eq_getLast?, List.getLast?_eq_getElem?, List.getD_eq_getElem?_getD, show (-1 + (l.length : Int)).toNat = l.length - 1 from by omega]
theorem tab_is (k : Nat) : ((⟨#[k]⟩ : Str) == Str.ofString "\t") = true ↔ k = 9 := by
  rw [show Str.ofString "\t" = (⟨#[9]⟩ : Str) from by decide +kernel]
  constructor
  · intro h
    have := eq_of_beq h
    injection this with e
    simpa using e
  · rintro rfl; exact beq_self_eq_true _
set_option maxHeartbeats 2000000 in
theorem columns_ {x : Str} {b : Int} {tx ty : Tok} (hb : 1 ≤ b ∧ b ≤ 8) (hx : x.length ≤ 100) :
    Cl w loose mean mg mb 256 news [.str x tx, .int b ty] 1 (fun r nx => ∃ (l : Addr) (us : List Value) (n : Nat), r = .ref l ∧ nx = (l, listOf us.toArray n) :: news ∧ IntsAre us (colsG b (KStt.codes x)) ∧ ∀ p ∈ news, p.1 < l) := by
  k_with_none
  w_top off
  unfold Cl
  k_fill
  intro dp un gd cn cs a ccd cl outer A₀ base h₀ L m s Q E B F X N T hk hd hu hret
  k_with "pyIter str" => refine hold_of ?_
  refine wpAny_call ?_
  k_dflt cell_enter
  k_steps
  unfold Hold
  (rename News _ _ _ _ => N8)
  refine' KStt.kst_text (σ := List Value × List Int × Nat) (fun c => (_, listOf c.1.toArray c.2.2) :: news) (fun _ => []) (fun c => IntsAre c.1 c.2.1) [] (fun pre c => c.2.1 = colsG b pre) ([_], [0], 0) (by rfl) (by k_asm) N8 (.cons _ _ .nil) (fun _ h => nomatch h) rfl ?turn ?done
  case turn =>
    rintro ⟨us, l, n⟩ pre post k t u h tk own he hoff hf hp F9 N9
    dsimp only at hf hp N9 F9
    have hl9 : l.length = pre.length + 1 := by rw [hp]; exact colsG_len b pre
    have hne9 : ∀ p ∈ news ++ own, p.1 ≠ _ := List.forall_mem_append.mpr ⟨fun p hp => Nat.ne_of_lt (by rename ∀ p ∈ news, p.1 < _ => hlt; exact hlt p hp), fun p hp => hoff p hp _ (.head _)⟩
    have hz9 : us.toArray.size ≤ sizeLine := by
      have := congrArg List.length he
      rw [KStt.codes_length, List.length_append, List.length_cons] at this
      rw [List.size_toArray, hf.length, hl9, PySem.sizeLine_eq]; omega
    k_with "InvEndN" => refine hold_of ?_
    k_steps
    all_goals (
      unfold Hold
      (rename News _ _ _ _ => N7)
      rw [List.push_toArray] at N7
      refine' kst_end (us ++ [_], l ++ [_], n + 1) (by k_asm) N7 (List.forall_mem_cons.mpr ⟨.head _, fun p hp => .tail _ (List.mem_append.mpr (.inl hp))⟩) (fun p hp => .tail _ (List.mem_append.mpr (.inr hp))) rfl (IntsAre.append hf (.cons _ _ .nil)) (fun _ h => nomatch h) (by intro z h1 _ _; exact if_neg h1) ?_
      show l ++ [_] = colsG b (pre ++ [_])
      rw [colsG_snoc, ← hp]
      refine congrArg (fun z => l ++ [z]) ?_
      rw [getD_last l (by omega)]
      unfold nxt
      first
        | (rw [if_pos (by have := (tab_is _).mp (by assumption); omega)])
        | (rw [if_neg (by intro q; have := (tab_is k).mpr (by omega); simp_all)]))
  case done =>
    rintro ⟨us, l, n⟩ u h tk hf hp F9 N9
    dsimp only at hf hp N9 F9
    k_steps
    subst hp
    exact hret _ _ _ _ (by k_asm) (by k_asm) ⟨_, _, _, rfl, rfl, hf, by assumption⟩

def isLaw : Stmt → Bool
  | .FunctionDef n _ _ _ _ _ _ _ _ _ => n == Str.ofString "law"
  | _ => false
def lawDef : Stmt := (PySem.Challenge.pw_np0031_01.main.body.getLast?).getD (.Pass ⟨0, 0, 0, 0⟩)
def lawBody : List Stmt := match lawDef with
  | .FunctionDef _ _ b _ _ _ _ _ _ _ => b
  | _ => []
def lawScope : Scope := match lawDef with
  | .FunctionDef _ _ _ _ _ _ s _ _ _ => s
  | _ => default
def lawStmt (i : Nat) : Stmt := lawBody.getD i (.Pass ⟨0, 0, 0, 0⟩)
def cellNames : List Str := [Str.ofString "_law_size", Str.ofString "_law_tenths", Str.ofString "_law_row", Str.ofString "_law_held", Str.ofString "_law_place", Str.ofString "_law_lines"]
abbrev lawCells (c6 c5 c4 c3 c2 c1 : Addr) : List (Str × Addr) := [(Str.ofString "_law_size", c6), (Str.ofString "_law_tenths", c5), (Str.ofString "_law_row", c4), (Str.ofString "_law_held", c3), (Str.ofString "_law_place", c2), (Str.ofString "_law_lines", c1)]
abbrev cellO (v : Option Value) : Obj := { cls := .type "cell", data := .cell v }
theorem goal_of {news : List (Addr × Obj)} {g gx : Addr} {col : Value} {ie : Bool} {ha hb hc : Int} {ka kb kc n : Nat} (h1 : (g, instObj 157 gx) ∈ news) (h2 : (gx, goalE ha hb hc ka kb kc n col ie) ∈ news) : GoalAt news g col ie := ⟨⟨gx, ha, hb, hc, ka, kb, kc, n, h1, h2⟩⟩
theorem far_of {R : List (Addr × Obj)} {L : Nat} (h : ∀ p ∈ R, @LT.lt Nat _ (L + 6) p.1) : ∀ p ∈ R, ∀ c : Nat, @LE.le Nat _ (L + 1) c → @LE.le Nat _ c (L + 6) → @Ne Nat p.1 c := fun p hp c _ h2 e => by
  have := h p hp
  omega
theorem fr_self {h₀ h : Heap} {L : Addr} {m : Str → Option Value} (ps : List (Str × Value)) (F : Fr h₀ L h m) (hk : ∀ p ∈ ps, m p.1 = some p.2) : Fr h₀ L h (kstB m ps) := by
  have e : kstB m ps = m := funext fun z => kstB_eq hk fun _ => rfl
  rw [e]; exact F
def CodesOk (codes : List Int) : Prop := (∀ z ∈ codes, z = 9 ∨ z = 10 ∨ (97 ≤ z ∧ z ≤ 101)) ∧ 12 ≤ codes.length ∧ codes.length ≤ 26
theorem codes_ok {cs : List Int} (h : ∀ z ∈ cs, z = 97 ∨ z = 98 ∨ z = 99 ∨ z = 10 ∨ z = 9) (hl : cs.length ≤ 14) : CodesOk (cs ++ [97, 98, 99, 100, 10, 97, 10, 97, 98, 99, 100, 101]) := by
  refine ⟨fun z hz => ?_, by rw [List.length_append]; exact Nat.le_add_left _ _, by rw [List.length_append]; exact Nat.add_le_add_right hl _⟩
  rcases List.mem_append.mp hz with h' | h'
  · have := h z h'; omega
  · simp only [List.mem_cons, List.not_mem_nil, or_false] at h'; omega
set_option maxHeartbeats 2000000 in
theorem law_1 {fa : Addr} {o6 o5 o4 o3 o2 o1 : Obj} (L : Addr) (ccd : Value) (h₀ : Heap) (s : Shared) (Q : Flow → Shared → Prop) (E : Value → Shared → Prop)
    (B : Below callerA h₀ [] h₀) (X : (Mine.hd.heap_1 w.params).In h₀) (T : Top Mine.view_ loose mean mg mb h₀) 
    {l : Addr} {vs : List Value} {ns : List Int} (hi : IntsAre vs ns) (hn : ns.length ≤ 63) (hl : h₀.IsList l vs.toArray) {u : Str → Option Value}
    (F : Fr h₀ L s.heap (kstB u [(Str.ofString "script", .ref l)])) (N : News h₀ L s.heap [(L + 1 + 1 + 1 + 1 + 1 + 1, o6), (L + 1 + 1 + 1 + 1 + 1, o5), (L + 1 + 1 + 1 + 1, o4), (L + 1 + 1 + 1, o3), (L + 1 + 1, o2), (L + 1, o1)])
    (hQ : ∀ d vs' ds' nn u' h' tk', Fr h₀ L h' (kstB u' [(Str.ofString "_law_deck", .ref d)]) → News h₀ L h' ((d, listOf vs'.toArray nn) :: [(L + 1 + 1 + 1 + 1 + 1 + 1, o6), (L + 1 + 1 + 1 + 1 + 1, o5), (L + 1 + 1 + 1 + 1, o4), (L + 1 + 1 + 1, o3), (L + 1 + 1, o2), (L + 1, o1)]) → IntsAre vs' ds' → DeckOk ds' → @LT.lt Nat _ (L + 6) d → Q .next { s with heap := h', toks := tk' }) : wpAny (model PySem.Challenge.rw_np0031_01.row.prog w) (callerA.deeper (envOfC (Str.ofString "law") lawScope L fa ccd)) (exec (lawStmt 0) (envOfC (Str.ofString "law") lawScope L fa ccd)) Q E s := by
  k_with_none
  w_top off
  revert X
  k_fill
  intro X
  conv => enter [3, 1]; whnf
  conv in (occs := *) lawScope => all_goals whnf
  k_steps
  (rename News _ _ _ _ => N9); (rename Fr _ _ _ _ => F9)
  exact hQ _ _ _ _ _ _ _ (fr_self _ F9 (by kst_all)) N9 (by assumption) (by assumption) (by omega)
set_option maxHeartbeats 2000000 in
theorem law_2 {fa : Addr} {o6 o5 o4 o3 o2 o1 : Obj} (L : Addr) (ccd : Value) (h₀ : Heap) (s : Shared) (Q : Flow → Shared → Prop) (E : Value → Shared → Prop)
    (B : Below callerA h₀ [] h₀) (X : (Mine.hd.heap_1 w.params).In h₀) (T : Top Mine.view_ loose mean mg mb h₀) 
    {d : Addr} {vs : List Value} {ds : List Int} {nn : Nat} (hi : IntsAre vs ds) (hok : DeckOk ds) (hd : @LT.lt Nat _ (L + 6) d) {u : Str → Option Value}
    (F : Fr h₀ L s.heap (kstB u [(Str.ofString "_law_deck", .ref d)])) (N : News h₀ L s.heap ((d, listOf vs.toArray nn) :: [(L + 1 + 1 + 1 + 1 + 1 + 1, o6), (L + 1 + 1 + 1 + 1 + 1, o5), (L + 1 + 1 + 1 + 1, o4), (L + 1 + 1 + 1, o3), (L + 1 + 1, o2), (L + 1, o1)]))
    (hQ : ∀ lc us codes b tb n2 nn' vs' ds' u' h' tk', 
      Fr h₀ L h' (kstB u' [(Str.ofString "_law_deck", .ref d), (Str.ofString "_law_codes", .ref lc), (Str.ofString "_law_width", .int b tb)]) → News h₀ L h' ((lc, listOf us.toArray n2) :: (d, listOf vs'.toArray nn') :: [(L + 1 + 1 + 1 + 1 + 1 + 1, o6), (L + 1 + 1 + 1 + 1 + 1, o5), (L + 1 + 1 + 1 + 1, o4), (L + 1 + 1 + 1, o3), (L + 1 + 1, o2), (L + 1, o1)]) → IntsAre us codes → CodesOk codes → 1 ≤ b ∧ b ≤ 8 → IntsAre vs' ds' → DeckOk ds' → @LT.lt Nat _ d lc → Q .next { s with heap := h', toks := tk' }) : wpAny (model PySem.Challenge.rw_np0031_01.row.prog w) (callerA.deeper (envOfC (Str.ofString "law") lawScope L fa ccd)) (exec (lawStmt 1) (envOfC (Str.ofString "law") lawScope L fa ccd)) Q E s := by
  k_with_none
  w_top off
  revert X
  k_fill
  intro X
  conv => enter [3, 1]; whnf
  conv in (occs := *) lawScope => all_goals whnf
  k_steps
  (rename News _ _ _ _ => N9)
  refine srcS.intro (by rfl) (by k_asm) N9 (by decide +kernel) ?_
  intro g9
  refine restU (J := fun i ys nx => nx = _ ∧ IntsAre ys ((KStt.codes (Str.ofString "abcd\na\nabcde")).take i)) ?turn ?fin _ 0 [] _ (Nat.zero_add _) ⟨rfl, .nil⟩
  case turn =>
    rintro i ys nx v I oI C oC D m₂ h tk E' hi' ⟨rfl, i8⟩ ⟨c8, t8, hc8, rfl⟩ hC' hx' F8 N8 off8 ne8
    k_steps
    exact CompEnd_pure F8 N8 off8 True.intro ⟨rfl, by rw [List.take_add_one, KStt.code_at hc8]; exact IntsAre.append i8 (.cons _ _ .nil)⟩
  case fin =>
    rintro ys nx ⟨rfl, i8⟩
    have i7 : IntsAre ys [97, 98, 99, 100, 10, 97, 10, 97, 98, 99, 100, 101] := by
      have e : (KStt.codes (Str.ofString "abcd\na\nabcde")).take (Str.ofString "abcd\na\nabcde").cps.size = [97, 98, 99, 100, 10, 97, 10, 97, 98, 99, 100, 101] := by decide +kernel
      rw [e] at i8; exact i8
    k_steps
    (rename News _ _ _ _ => N9); (rename Fr _ _ _ _ => F9); (rename SomeCodes _ => c9)
    refine hQ _ _ _ _ _ _ _ _ _ _ _ _ (fr_self _ F9 (by kst_all)) (cb_drop N9 (by lcg_sub)) (by assumption) (codes_ok c9 (by assumption)) ⟨by omega, by omega⟩ (by assumption) (by assumption) (by omega)
set_option maxHeartbeats 2000000 in
theorem law_3 {fa : Addr} {o6 o5 o4 o3 o2 o1 : Obj} (L : Addr) (ccd : Value) (h₀ : Heap) (s : Shared) (Q : Flow → Shared → Prop) (E : Value → Shared → Prop)
    (B : Below callerA h₀ [] h₀) (X : (Mine.hd.heap_1 w.params).In h₀) (T : Top Mine.view_ loose mean mg mb h₀) 
    {d lc : Addr} {vs us : List Value} {codes : List Int} {b : Int} {tb : Tok} {nn n2 : Nat} (hc : IntsAre us codes) (hok : CodesOk codes) (hd : @LT.lt Nat _ (L + 6) d) (hlc : @LT.lt Nat _ d lc) {u : Str → Option Value}
    (F : Fr h₀ L s.heap (kstB u [(Str.ofString "_law_deck", .ref d), (Str.ofString "_law_codes", .ref lc), (Str.ofString "_law_width", .int b tb)])) (N : News h₀ L s.heap ((lc, listOf us.toArray n2) :: (d, listOf vs.toArray nn) :: [(L + 1 + 1 + 1 + 1 + 1 + 1, o6), (L + 1 + 1 + 1 + 1 + 1, o5), (L + 1 + 1 + 1 + 1, o4), (L + 1 + 1 + 1, o3), (L + 1 + 1, o2), (L + 1, o1)]))
    (hQ : ∀ (v g gx : Addr) (R : List (Addr × Obj)) (ha hb hc : Int) (ka kb kc : Nat) u' h' tk', Fr h₀ L h' (kstB u' [(Str.ofString "_law_deck", .ref d), (Str.ofString "_law_codes", .ref lc), (Str.ofString "_law_width", .int b tb), (Str.ofString "_law_view", .ref v), (Str.ofString "_law_goal", .ref g)]) → News h₀ L h' ((gx, goalE ha hb hc ka kb kc 3 .none false) :: (d, listOf vs.toArray nn) :: (L + 1 + 1 + 1 + 1 + 1 + 1, o6) :: (L + 1 + 1 + 1 + 1 + 1, o5) :: (L + 1 + 1 + 1 + 1, o4) :: (L + 1 + 1 + 1, o3) :: (L + 1 + 1, o2) :: (L + 1, o1) :: R) →
      ViewAt R v codes → (g, instObj 157 gx) ∈ R → (lc, listOf us.toArray n2) ∈ R → (∀ p ∈ R, p.1 ≠ d) → (∀ p ∈ R, p.1 ≠ gx) → (∀ p ∈ R, ∀ c : Nat, @LE.le Nat _ (L + 1) c → @LE.le Nat _ c (L + 6) → @Ne Nat p.1 c) → @LT.lt Nat _ d gx → Q .next { s with heap := h', toks := tk' }) : wpAny (model PySem.Challenge.rw_np0031_01.row.prog w) (callerA.deeper (envOfC (Str.ofString "law") lawScope L fa ccd)) (exec (lawStmt 2) (envOfC (Str.ofString "law") lawScope L fa ccd)) Q E s := by
  k_with_none
  w_top off
  revert X
  k_fill
  intro X
  conv => enter [3, 1]; whnf
  conv in (occs := *) lawScope => all_goals whnf
  have hcl := hok.2.2
  k_steps
  (rename News _ _ _ _ => N9); (rename Fr _ _ _ _ => F9)
  refine hQ ?v ?g ?gx [(?g, instObj 157 ?gx), (?v, instObj 221 ?dx), (?dx, dictOf [⟨?e1, .str (Str.ofString "codes") ?e2, .ref ?lv⟩, ⟨?e3, .str (Str.ofString "place") ?e4, .int 1 ?e5⟩] ?nd), (?lv, listOf us.toArray ?nv), (lc, listOf us.toArray n2)] _ _ _ _ _ _ _ _ _ (fr_self _ F9 (by kst_all)) (cb_drop N9 (by lcg_sub)) ?_ ?_ ?_ ?_ ?_ ?_ ?_
  · exact ⟨⟨_, _, _, _, _, _, _, _, _, _, by k_mem, by k_mem, by k_mem, hc, by omega⟩⟩
  · k_mem
  · k_mem
  · k_all
  · k_all
  · refine far_of ?_
    repeat (refine List.forall_mem_cons.mpr ⟨?_, ?_⟩; · (dsimp only; omega))
    exact List.forall_mem_nil _
  · omega
local macro_rules | `(tactic| tb_rel) => `(tactic| first | (with_reducible assumption) | (refine' view_cons ?hvc; (case hvc => tb_rel)) | (refine' goal_of ?hg1 ?hg2; (case hg1 => k_mem); (case hg2 => k_mem)))
theorem cell_ne {R : List (Addr × Obj)} {L c : Nat} (h : ∀ p ∈ R, ∀ c : Nat, @LE.le Nat _ (L + 1) c → @LE.le Nat _ c (L + 6) → @Ne Nat p.1 c) (h1 : @LE.le Nat _ (L + 1) c) (h2 : @LE.le Nat _ c (L + 6)) : ∀ p ∈ R, p.1 ≠ c := fun p hp => h p hp c h1 h2
local macro_rules | `(tactic| k_all) => `(tactic| exact cell_ne (by with_reducible assumption) (by omega) (by omega))
theorem txt_eq (l : List Int) : Txt.join (Str.ofString "") (l.map fun k => Str.mk #[k.toNat]) = KStt.txt l := by
  refine (StrLaws.glued_eq_join _ _).trans ?_
  have key : ∀ l : List Int, (Str.join (Str.ofString "") (l.map fun k => Str.mk #[k.toNat])).cps.toList = l.map Int.toNat := by
    intro l
    induction l with
    | nil => rfl
    | cons a r ih =>
      cases r with
      | nil => rfl
      | cons c r =>
        show (Str.mk #[a.toNat] ++ Str.ofString "" ++ Str.join (Str.ofString "") ((c :: r).map fun k => Str.mk #[k.toNat])).cps.toList = _
        rw [Str.cps_append, Str.cps_append, Array.toList_append, Array.toList_append, ih]
        rfl
  refine Str.ext' (Array.toList_inj.mp ?_)
  rw [key]
  rfl
set_option maxHeartbeats 2000000 in
theorem law_4 {fa : Addr} {o6 o5 o4 o3 o2 o1 : Obj} (L : Addr) (ccd : Value) (h₀ : Heap) (s : Shared) (Q : Flow → Shared → Prop) (E : Value → Shared → Prop)
    (B : Below callerA h₀ [] h₀) (X : (Mine.hd.heap_1 w.params).In h₀) (T : Top Mine.view_ loose mean mg mb h₀) 
    {d gx lc v g : Addr} {vs us : List Value} {ds codes : List Int} {b : Int} {tb : Tok} {nn n2 : Nat} {R : List (Addr × Obj)} {ha hb hc : Int} {ka kb kc : Nat} (hi : IntsAre us codes) (hok : CodesOk codes) (hdi : IntsAre vs ds) (hdo : DeckOk ds) (hbb : 1 ≤ b ∧ b ≤ 8) (hd : @LT.lt Nat _ (L + 6) d) (hgx : @LT.lt Nat _ d gx) {u : Str → Option Value}
    (hv : ViewAt R v codes) (hg : (g, instObj 157 gx) ∈ R) (hlc : (lc, listOf us.toArray n2) ∈ R) (hR1 : ∀ p ∈ R, p.1 ≠ d) (hR2 : ∀ p ∈ R, p.1 ≠ gx) (hRc : ∀ p ∈ R, ∀ c : Nat, @LE.le Nat _ (L + 1) c → @LE.le Nat _ c (L + 6) → @Ne Nat p.1 c)
    (F : Fr h₀ L s.heap (kstB u [(Str.ofString "_law_deck", .ref d), (Str.ofString "_law_codes", .ref lc), (Str.ofString "_law_width", .int b tb), (Str.ofString "_law_view", .ref v), (Str.ofString "_law_goal", .ref g)])) (N : News h₀ L s.heap ((gx, goalE ha hb hc ka kb kc 3 .none false) :: (d, listOf vs.toArray nn) :: (L + 1 + 1 + 1 + 1 + 1 + 1, o6) :: (L + 1 + 1 + 1 + 1 + 1, o5) :: (L + 1 + 1 + 1 + 1, o4) :: (L + 1 + 1 + 1, o3) :: (L + 1 + 1, o2) :: (L + 1, o1) :: R))
    {c0 : Option Value} (dc1 : o1.data = .cell c0)
    (hQ : ∀ ll lus o1 u' h' tk', o1.data = .cell (some (.ref ll)) → Fr h₀ L h' (kstB u' [(Str.ofString "_law_deck", .ref d), (Str.ofString "_law_codes", .ref lc), (Str.ofString "_law_width", .int b tb), (Str.ofString "_law_view", .ref v), (Str.ofString "_law_goal", .ref g)]) → News h₀ L h' ((gx, goalE ha hb hc ka kb kc 3 .none false) :: (d, listOf vs.toArray nn) :: (L + 1 + 1 + 1 + 1 + 1 + 1, o6) :: (L + 1 + 1 + 1 + 1 + 1, o5) :: (L + 1 + 1 + 1 + 1, o4) :: (L + 1 + 1 + 1, o3) :: (L + 1 + 1, o2) :: (L + 1, o1) :: ((ll, listOf lus.toArray 0) :: R)) → StrsAre lus (Txt.split (KStt.txt codes) (Str.ofString "\n")) → @LT.lt Nat _ gx ll → Q .next { s with heap := h', toks := tk' }) : wpAny (model PySem.Challenge.rw_np0031_01.row.prog w) (callerA.deeper (envOfC (Str.ofString "law") lawScope L fa ccd)) (exec (lawStmt 3) (envOfC (Str.ofString "law") lawScope L fa ccd)) Q E s := by
  k_with_none
  w_top off
  revert X
  k_fill
  intro X
  conv => enter [3, 1]; whnf
  conv in (occs := *) lawScope => all_goals whnf
  have hcl := hok.2.2
  k_with "call builtin:str.join" => refine hold_of ?_
  k_with "call builtin:str.split" => refine hold_of ?_
  k_steps
  (rename News _ _ _ _ => N9)
  unfold srcU
  refine LCg.CompSrc.ledger (by rfl) (by k_asm) N9 (by k_mem) (by rw [List.size_toArray, hi.length, PySem.sizeLine_eq]; omega) ?_
  intro g9
  refine restU (J := fun i ys nx => nx = _ ∧ StrsAre ys ((codes.take i).map fun k => Str.mk #[k.toNat])) ?turn ?fin _ 0 [] _ (Nat.zero_add _) ⟨rfl, .nil⟩
  case turn =>
    rintro i ys nx v' I oI C oC D m₂ h tk E' hi' ⟨rfl, i8⟩ hP hC' hx' F8 N8 off8 ne8
    obtain ⟨k9, t9, hk9, rfl⟩ := ints_item hi hP
    have hk8 : 0 ≤ k9 ∧ k9 ≤ 101 := by have := hok.1 k9 (List.mem_of_getElem? hk9); omega
    k_steps
    exact CompEnd_pure F8 N8 off8 (.inr ⟨_, by k_mem, rfl, _, rfl⟩) ⟨rfl, by rw [List.take_add_one, hk9, List.map_append]; exact StrsAre.append' i8 (.cons _ _ .nil)⟩
  case fin =>
    rintro ys nx ⟨rfl, i8⟩
    rw [show us.toArray.size = codes.length from by rw [List.size_toArray, hi.length], List.take_length] at i8
    k_steps
    unfold Hold
    (rename News _ _ _ _ => N9)
    refine KT.join_1 (g := fun k : Int => Str.mk #[k.toNat]) (l := codes) (News.isList N9 (by k_mem)) (by have := i8.carried; rw [List.map_map] at this; exact this) (fun _ _ => rfl) (by omega) ?_
    rw [txt_eq]
    intro t7 k7 e7
    k_steps
    unfold Hold
    refine KSpl.split1 (by k_asm) N9 (by decide +kernel) ?_ (by rw [KStt.txt_length, PySem.sizeLine_eq]; omega)
    intro ll l9 h9 k9 e9 s9 F8 N8 b9
    rw [e9] at s9
    (try k_lt b9)
    k_steps
    (rename News _ _ _ _ => N9); (rename Fr _ _ _ _ => F9)
    exact hQ _ _ _ _ _ _ (by assumption) (fr_self _ F9 (by kst_all)) (cb_drop N9 (by kst_allIn)) s9 (by omega)
local macro_rules | `(tactic| k_all) => `(tactic| exact cell_ne (by with_reducible assumption) (by omega) (by omega))
local macro_rules | `(tactic| walk_at "call builtin:len") => `(tactic| (k_here; (with_reducible show wpAny _ _ (call (Value.builtin "len") [Value.ref _]) _ _ _); k_dflt (refine' kst_len ?k1 ?k2 ?k3 ?k4 ?_; (case k1 => k_asm); (case k2 => k_mem); (case k3 => first | exact IntsAre.length (by assumption) | exact PyProof.Rows.StrsAre.length (by assumption)); (case k4 => omega); k_whole)))

theorem pick_upto {vs : List Value} {y : Int} (h : 0 ≤ y) : slicePick vs.toArray none (some y) none = (vs.take y.toNat).toArray := by
  have e : sliceBounds none (some y) none vs.toArray.size = (((0 : Nat) : Int), ((min y.toNat vs.toArray.size : Nat) : Int), 1) := by
    simp only [sliceBounds, Option.getD_none, show (1 : Int) > 0 by decide, if_true, if_neg (show ¬ (y < 0) by omega)]
    congr 1
    congr 1
    omega
  rw [kmk_pick_nat _ e, List.drop_zero, Nat.sub_zero, List.size_toArray, kmk_take_min]
theorem strs_item {vs : List Value} {ss : List Str} (hi : StrsAre vs ss) {i : Nat} {v : Value} (h : vs.toArray[i]? = some v) : ∃ x t, ss[i]? = some x ∧ v = .str x t := by
  obtain ⟨x, e, hx⟩ := hi.areOf.get i v (by simpa using h)
  obtain ⟨t, rfl⟩ := ItemKind.str_is hx
  exact ⟨x, t, e, rfl⟩
def startAt (ls : List Str) (j : Nat) : Int := 1 + ((ls.take j).map fun x => (x.length : Int) + 1).sum
set_option maxHeartbeats 2000000 in
theorem law_5 {fa : Addr} {o6 o5 o4 o3 o2 o1 : Obj} (L : Addr) (ccd : Value) (h₀ : Heap) (s : Shared) (Q : Flow → Shared → Prop) (E : Value → Shared → Prop)
    (B : Below callerA h₀ [] h₀) (X : (Mine.hd.heap_1 w.params).In h₀) (T : Top Mine.view_ loose mean mg mb h₀) 
    {d gx lc v g : Addr} {vs us : List Value} {ds codes : List Int} {b : Int} {tb : Tok} {nn n2 : Nat} {R : List (Addr × Obj)} {ha hb hc : Int} {ka kb kc : Nat} (hi : IntsAre us codes) (hok : CodesOk codes) (hdi : IntsAre vs ds) (hdo : DeckOk ds) (hbb : 1 ≤ b ∧ b ≤ 8) (hd : @LT.lt Nat _ (L + 6) d) (hgx : @LT.lt Nat _ d gx) {u : Str → Option Value}
    (hv : ViewAt R v codes) (hg : (g, instObj 157 gx) ∈ R) (hlc : (lc, listOf us.toArray n2) ∈ R) (hR1 : ∀ p ∈ R, p.1 ≠ d) (hR2 : ∀ p ∈ R, p.1 ≠ gx) (hRc : ∀ p ∈ R, ∀ c : Nat, @LE.le Nat _ (L + 1) c → @LE.le Nat _ c (L + 6) → @Ne Nat p.1 c) {ll : Addr} {lus : List Value} {lls : List Str} (hll : StrsAre lus lls) (hln : 1 ≤ lls.length ∧ lls.length ≤ 27 ∧ ∀ x ∈ lls, x.length ≤ 26) (dc1 : o1.data = .cell (some (.ref ll))) (hlm : (ll, listOf lus.toArray 0) ∈ R)
    (F : Fr h₀ L s.heap (kstB u [(Str.ofString "_law_deck", .ref d), (Str.ofString "_law_codes", .ref lc), (Str.ofString "_law_width", .int b tb), (Str.ofString "_law_view", .ref v), (Str.ofString "_law_goal", .ref g)])) (N : News h₀ L s.heap ((gx, goalE ha hb hc ka kb kc 3 .none false) :: (d, listOf vs.toArray nn) :: (L + 1 + 1 + 1 + 1 + 1 + 1, o6) :: (L + 1 + 1 + 1 + 1 + 1, o5) :: (L + 1 + 1 + 1 + 1, o4) :: (L + 1 + 1 + 1, o3) :: (L + 1 + 1, o2) :: (L + 1, o1) :: R))
    (hQ : ∀ ls sus u' h' tk', Fr h₀ L h' (kstB u' [(Str.ofString "_law_deck", .ref d), (Str.ofString "_law_codes", .ref lc), (Str.ofString "_law_width", .int b tb), (Str.ofString "_law_view", .ref v), (Str.ofString "_law_goal", .ref g), (Str.ofString "_law_starts", .ref ls)]) → News h₀ L h' ((gx, goalE ha hb hc ka kb kc 3 .none false) :: (d, listOf vs.toArray nn) :: (L + 1 + 1 + 1 + 1 + 1 + 1, o6) :: (L + 1 + 1 + 1 + 1 + 1, o5) :: (L + 1 + 1 + 1 + 1, o4) :: (L + 1 + 1 + 1, o3) :: (L + 1 + 1, o2) :: (L + 1, o1) :: ((ls, listOf sus.toArray sus.length) :: R)) → IntsAre sus ((List.range lls.length).map (startAt lls)) → (∀ p ∈ (ls, listOf sus.toArray sus.length) :: R, p.1 ≠ d) → (∀ p ∈ (ls, listOf sus.toArray sus.length) :: R, p.1 ≠ gx) →
      (∀ p ∈ (ls, listOf sus.toArray sus.length) :: R, ∀ c : Nat, @LE.le Nat _ (L + 1) c → @LE.le Nat _ c (L + 6) → @Ne Nat p.1 c) → Q .next { s with heap := h', toks := tk' }) : wpAny (model PySem.Challenge.rw_np0031_01.row.prog w) (callerA.deeper (envOfC (Str.ofString "law") lawScope L fa ccd)) (exec (lawStmt 4) (envOfC (Str.ofString "law") lawScope L fa ccd)) Q E s := by
  k_with_none
  w_top off
  revert X
  k_fill
  intro X
  conv => enter [3, 1]; whnf
  conv in (occs := *) lawScope => all_goals whnf
  have hcl := hok.2.2
  k_steps
  (rename News _ _ _ _ => N9)
  unfold srcU
  refine LCg.CompSrc.range (by rfl) (by k_asm) N9 (by assumption) (by exact small_one (by omega) (by omega) (by omega) (by omega)) (by exact rangeSize_nat _ _) (by rw [PySem.sizeLine_eq]; omega) ?_
  intro g9
  refine restU (J := fun i ys nx => nx = _ ∧ IntsAre ys ((List.range i).map (startAt lls))) ?turn ?fin _ 0 [] _ (Nat.zero_add _) ⟨rfl, .nil⟩
  case turn =>
    rintro i ys nx v' I oI C oC D m₂ h tk E' hi' ⟨rfl, i8⟩ ⟨t9, rfl⟩ hC' hx' F8 N8 off8 ne8
    k_steps
    (rename News _ _ _ _ => N9)
    refine kmk_slice (by k_asm) N9 (News.isList N9 (by k_mem)) (by kmk_part) (by kmk_part) ?_ (by with_unfolding_all rfl) (by kmk_pure) (by rw [List.size_toArray, hll.length, PySem.sizeLine_eq]; omega)
    intro D7 h7 F7 N7 b7
    rw [pick_upto (by omega), show ((0 : Int) + (i : Int)).toNat = i from by omega] at N7
    have hll7 := StrsAre.take' hll i
    k_lt b7
    k_steps
    unfold srcU
    refine LCg.CompSrc.ledger (by rfl) (by k_asm) N7 (by k_mem) (by rw [List.size_toArray, List.length_take, PySem.sizeLine_eq]; have := hll.length; omega) ?_
    intro g7
    refine restU (J := fun j ys nx => nx = _ ∧ IntsAre ys ((((lls.take i).take j).map fun x => (x.length : Int) + 1))) ?turn7 ?fin7 _ 0 [] _ (Nat.zero_add _) ⟨rfl, .nil⟩
    case turn7 =>
      rintro j zs nx v' I' oI' C' oC' D' m' h' tk' E' hj' ⟨rfl, j8⟩ hP hC'' hx'' F6 N6 off6 ne6
      obtain ⟨x6, t6, hx6, rfl⟩ := strs_item hll7 hP
      have hx5 : x6.length ≤ 26 := hln.2.2 x6 (List.mem_of_mem_take (List.mem_of_getElem? hx6))
      k_steps
      exact CompEnd_pure F6 N6 off6 (.inr ⟨_, by k_mem, rfl, _, rfl⟩) ⟨rfl, by rw [List.take_add_one, hx6, List.map_append]; exact IntsAre.append j8 (.cons _ _ .nil)⟩
    case fin7 =>
      rintro zs nx ⟨rfl, j8⟩
      rw [List.size_toArray, hll7.length, List.take_length] at j8
      k_steps
      (rename News _ _ _ _ => N5)
      exact LCg.CompEnd.intro (by k_asm) N5 _ (fun p hp => .tail _ (.tail _ hp)) off8 True.intro ⟨rfl, by rw [List.range_succ, List.map_append]; exact IntsAre.append i8 (.cons _ _ .nil)⟩
  case fin =>
    rintro ys nx ⟨rfl, i8⟩
    k_steps
    (rename News _ _ _ _ => N9); (rename Fr _ _ _ _ => F9)
    exact hQ _ _ _ _ _ (fr_self _ F9 (by kst_all)) (cb_drop N9 (by kst_allIn)) (by rw [show ((lls.length : Int) - 0).toNat = lls.length from by omega] at i8; exact i8)
      (List.forall_mem_cons.mpr ⟨by k_ne, hR1⟩) (List.forall_mem_cons.mpr ⟨by k_ne, hR2⟩) (List.forall_mem_cons.mpr ⟨fun c h1 h2 => by (dsimp only; omega), hRc⟩)
local macro_rules | `(tactic| walk_at "call builtin:len") => `(tactic| (k_here; (with_reducible show wpAny _ _ (call (Value.builtin "len") [Value.ref _]) _ _ _); k_dflt (refine' kst_len ?k1 ?k2 ?k3 ?k4 ?_; (case k1 => k_asm); (case k2 => k_mem); (case k3 => first | exact IntsAre.length (by assumption) | exact PyProof.Rows.StrsAre.length (by assumption)); (case k4 => omega); k_whole)))
set_option maxHeartbeats 2000000 in
theorem law_6 {fa : Addr} {o6 o5 o4 o3 o2 o1 : Obj} (L : Addr) (ccd : Value) (h₀ : Heap) (s : Shared) (Q : Flow → Shared → Prop) (E : Value → Shared → Prop)
    (B : Below callerA h₀ [] h₀) (X : (Mine.hd.heap_1 w.params).In h₀) (T : Top Mine.view_ loose mean mg mb h₀) 
    {d gx lc v g : Addr} {vs us : List Value} {ds codes : List Int} {b : Int} {tb : Tok} {nn n2 : Nat} {R : List (Addr × Obj)} {ha hb hc : Int} {ka kb kc : Nat} (hi : IntsAre us codes) (hok : CodesOk codes) (hdi : IntsAre vs ds) (hdo : DeckOk ds) (hbb : 1 ≤ b ∧ b ≤ 8) (hd : @LT.lt Nat _ (L + 6) d) (hgx : @LT.lt Nat _ d gx) {u : Str → Option Value}
    (hv : ViewAt R v codes) (hg : (g, instObj 157 gx) ∈ R) (hlc : (lc, listOf us.toArray n2) ∈ R) (hR1 : ∀ p ∈ R, p.1 ≠ d) (hR2 : ∀ p ∈ R, p.1 ≠ gx) (hRc : ∀ p ∈ R, ∀ c : Nat, @LE.le Nat _ (L + 1) c → @LE.le Nat _ c (L + 6) → @Ne Nat p.1 c) {ll : Addr} {lus : List Value} {lls : List Str} (hll : StrsAre lus lls) (hln : 1 ≤ lls.length ∧ lls.length ≤ 27 ∧ ∀ x ∈ lls, x.length ≤ 26) (dc1 : o1.data = .cell (some (.ref ll))) (hlm : (ll, listOf lus.toArray 0) ∈ R) {ls : Addr} {sus : List Value} (hsi : IntsAre sus ((List.range lls.length).map (startAt lls))) (hlsm : (ls, listOf sus.toArray sus.length) ∈ R)
    (F : Fr h₀ L s.heap (kstB u [(Str.ofString "_law_deck", .ref d), (Str.ofString "_law_codes", .ref lc), (Str.ofString "_law_width", .int b tb), (Str.ofString "_law_view", .ref v), (Str.ofString "_law_goal", .ref g), (Str.ofString "_law_starts", .ref ls)])) (N : News h₀ L s.heap ((gx, goalE ha hb hc ka kb kc 3 .none false) :: (d, listOf vs.toArray nn) :: (L + 1 + 1 + 1 + 1 + 1 + 1, o6) :: (L + 1 + 1 + 1 + 1 + 1, o5) :: (L + 1 + 1 + 1 + 1, o4) :: (L + 1 + 1 + 1, o3) :: (L + 1 + 1, o2) :: (L + 1, o1) :: R)) {c2 c3 : Option Value} (dc2 : o2.data = .cell c2) (dc3 : o3.data = .cell c3)
    (hQ : ∀ P tp f vs' ds' nn' o2 o3 u' h' tk', o2.data = .cell (some (.int P tp)) → o3.data = .cell (some .none) → Fr h₀ L h' (kstB u' [(Str.ofString "_law_deck", .ref d), (Str.ofString "_law_codes", .ref lc), (Str.ofString "_law_width", .int b tb), (Str.ofString "_law_view", .ref v), (Str.ofString "_law_goal", .ref g), (Str.ofString "_law_starts", .ref ls), (Str.ofString "_law_follows", .bool f)]) → News h₀ L h' ((gx, goalE ha hb hc ka kb kc 3 .none false) :: (d, listOf vs'.toArray nn') :: (L + 1 + 1 + 1 + 1 + 1 + 1, o6) :: (L + 1 + 1 + 1 + 1 + 1, o5) :: (L + 1 + 1 + 1 + 1, o4) :: (L + 1 + 1 + 1, o3) :: (L + 1 + 1, o2) :: (L + 1, o1) :: R) → 1 ≤ P → P ≤ 1 + (codes.length : Int) → IntsAre vs' ds' → DeckOk ds' → Q .next { s with heap := h', toks := tk' }) : wpAny (model PySem.Challenge.rw_np0031_01.row.prog w) (callerA.deeper (envOfC (Str.ofString "law") lawScope L fa ccd)) (exec (lawStmt 5) (envOfC (Str.ofString "law") lawScope L fa ccd)) Q E s := by
  k_with_none
  w_top off
  revert X
  k_fill
  intro X
  conv => enter [3, 1]; whnf
  conv in (occs := *) lawScope => all_goals whnf
  have hcl := hok.2.2
  k_steps
  (rename News _ _ _ _ => N9); (rename Fr _ _ _ _ => F9)
  exact hQ _ _ _ _ _ _ _ _ _ _ _ (by assumption) (by assumption) (fr_self _ F9 (by kst_all)) (cb_drop N9 (by kst_allIn)) (by omega) (by omega) (by assumption) (by assumption)

def loopBody : List Stmt := match lawStmt 6 with
  | .For _ _ b _ _ => b
  | _ => []
def loopStmt (i : Nat) : Stmt := loopBody.getD i (.Pass ⟨0, 0, 0, 0⟩)
def startsL (ls : List Str) : List Int := (List.range ls.length).map (startAt ls)
def cntLe (l : List Int) (P : Int) : Nat := (l.filter fun b => decide (b ≤ P)).length
theorem filt_yes {k P : Int} (h : k ≤ P) : [k].filter (fun b => decide (b ≤ P)) = [k] := by simp [h]
theorem filt_no {k P : Int} (h : ¬ k ≤ P) : [k].filter (fun b => decide (b ≤ P)) = [] := by simp [h]
theorem startsL_len (ls : List Str) : (startsL ls).length = ls.length := by simp [startsL]
set_option maxHeartbeats 2000000 in
theorem turn_0 {fa : Addr} {o6 o5 o4 o3 o2 o1 : Obj} (L : Addr) (ccd : Value) (h₀ : Heap) (s : Shared) (Q : Flow → Shared → Prop) (E : Value → Shared → Prop)
    (B : Below callerA h₀ [] h₀) (X : (Mine.hd.heap_1 w.params).In h₀) (T : Top Mine.view_ loose mean mg mb h₀) 
    {d gx lc v g : Addr} {vs us : List Value} {ds codes : List Int} {b : Int} {tb : Tok} {nn n2 : Nat} {R : List (Addr × Obj)} {ha hb hc : Int} {ka kb kc : Nat} (hi : IntsAre us codes) (hok : CodesOk codes) (hdi : IntsAre vs ds) (hdo : DeckOk ds) (hbb : 1 ≤ b ∧ b ≤ 8) (hd : @LT.lt Nat _ (L + 6) d) (hgx : @LT.lt Nat _ d gx) {u : Str → Option Value}
    (hv : ViewAt R v codes) (hg : (g, instObj 157 gx) ∈ R) (hlc : (lc, listOf us.toArray n2) ∈ R) (hR1 : ∀ p ∈ R, p.1 ≠ d) (hR2 : ∀ p ∈ R, p.1 ≠ gx) (hRc : ∀ p ∈ R, ∀ c : Nat, @LE.le Nat _ (L + 1) c → @LE.le Nat _ c (L + 6) → @Ne Nat p.1 c) {ll : Addr} {lus : List Value} {lls : List Str} (hll : StrsAre lus lls) (hln : 1 ≤ lls.length ∧ lls.length ≤ 27 ∧ ∀ x ∈ lls, x.length ≤ 26) (dc1 : o1.data = .cell (some (.ref ll))) (hlm : (ll, listOf lus.toArray 0) ∈ R) {ls : Addr} {sus : List Value} (hsi : IntsAre sus (startsL lls)) (hlsm : (ls, listOf sus.toArray sus.length) ∈ R) {f : Bool} {P : Int} {tp : Tok} (dc2 : o2.data = .cell (some (.int P tp))) (hP : 1 ≤ P ∧ P ≤ 1 + (codes.length : Int)){col : Value} {ie : Bool}
    (F : Fr h₀ L s.heap (kstB u [(Str.ofString "_law_deck", .ref d), (Str.ofString "_law_codes", .ref lc), (Str.ofString "_law_width", .int b tb), (Str.ofString "_law_view", .ref v), (Str.ofString "_law_goal", .ref g), (Str.ofString "_law_starts", .ref ls), (Str.ofString "_law_follows", .bool f)])) (N : News h₀ L s.heap ((gx, goalE ha hb hc ka kb kc 3 col ie) :: (d, listOf vs.toArray nn) :: (L + 1 + 1 + 1 + 1 + 1 + 1, o6) :: (L + 1 + 1 + 1 + 1 + 1, o5) :: (L + 1 + 1 + 1 + 1, o4) :: (L + 1 + 1 + 1, o3) :: (L + 1 + 1, o2) :: (L + 1, o1) :: R))
    (hQ : ∀ t u' h' tk', Fr h₀ L h' (kstB u' [(Str.ofString "_law_deck", .ref d), (Str.ofString "_law_codes", .ref lc), (Str.ofString "_law_width", .int b tb), (Str.ofString "_law_view", .ref v), (Str.ofString "_law_goal", .ref g), (Str.ofString "_law_starts", .ref ls), (Str.ofString "_law_follows", .bool f), (Str.ofString "_law_at", .int ((cntLe (startsL lls) P : Int) - 1) t)]) → News h₀ L h' ((gx, goalE ha hb hc ka kb kc 3 col ie) :: (d, listOf vs.toArray nn) :: (L + 1 + 1 + 1 + 1 + 1 + 1, o6) :: (L + 1 + 1 + 1 + 1 + 1, o5) :: (L + 1 + 1 + 1 + 1, o4) :: (L + 1 + 1 + 1, o3) :: (L + 1 + 1, o2) :: (L + 1, o1) :: R) → Q .next { s with heap := h', toks := tk' }) : wpAny (model PySem.Challenge.rw_np0031_01.row.prog w) (callerA.deeper (envOfC (Str.ofString "law") lawScope L fa ccd)) (exec (loopStmt 0) (envOfC (Str.ofString "law") lawScope L fa ccd)) Q E s := by
  k_with_none
  w_top off
  revert X
  k_fill
  intro X
  conv => enter [3, 1]; whnf
  conv in (occs := *) lawScope => all_goals whnf
  have hcl := hok.2.2
  k_steps
  (rename News _ _ _ _ => N9)
  unfold srcT
  refine LCt.CompSrcT.ledger (by rfl) (by k_asm) N9 (by k_mem) (by rw [List.size_toArray, hsi.length, startsL_len, PySem.sizeLine_eq]; omega) ?_
  intro g9
  refine restT (J := fun i ys nx => nx = _ ∧ IntsAre ys (((startsL lls).take i).filter fun b => decide (b ≤ P)) ∧ ys.length ≤ i) ?turn ?fin _ 0 [] _ (Nat.zero_add _) ⟨rfl, .nil, Nat.le_refl _⟩
  case turn =>
    rintro i ys nx v' I oI C oC D m₂ h tk E' hi' ⟨rfl, i8, n8⟩ hPp hC' hx' F8 N8 off8 ne8
    obtain ⟨k9, t9, hk9, rfl⟩ := ints_item hsi hPp
    k_steps
    · exact CompEnd_pure F8 N8 off8 (.inr ⟨_, by k_mem, rfl, _, rfl⟩) ⟨rfl, by rw [List.take_add_one, hk9, List.filter_append]; exact IntsAre.append i8 (by rw [show (some k9).toList = [k9] from rfl, filt_yes (by assumption)]; exact .cons _ _ .nil), by rw [List.length_append]; exact Nat.succ_le_succ n8⟩
    · exact CompEnd_pure F8 N8 off8 (.inr ⟨_, by k_mem, rfl, _, rfl⟩) ⟨rfl, by rw [List.take_add_one, hk9, List.filter_append, show (some k9).toList = [k9] from rfl, filt_no (by omega), List.append_nil]; exact i8, Nat.le_succ_of_le n8⟩
  case fin =>
    rintro ys nx ⟨rfl, i8, n8⟩
    rw [List.size_toArray, hsi.length, List.take_length] at i8
    have hcnt : ((startsL lls).filter fun b => decide (b ≤ P)).length ≤ 27 := Nat.le_trans (List.length_filter_le _ _) (by rw [startsL_len]; exact hln.2.1)
    k_steps
    (rename News _ _ _ _ => N9); (rename Fr _ _ _ _ => F9)
    exact hQ _ _ _ _ (fr_self _ F9 (by kst_all)) (cb_drop N9 (by kst_allIn))

section
variable {prog : Program} {A : Around} {E : Value → Shared → Prop} {s : Shared} {h₀ : Heap} {L l1 l2 : Addr} {x y : Str} {a b : Int} {t u t' u' : Tok} {Q : Value → Shared → Prop}
theorem pair_reads {h : Heap} {l : Addr} (N : News h₀ L h news) (h1 : (l, tup2 (.int a t) (.str x u)) ∈ news) : ∃ as, Reads h (.ref l) (.tuple [.int a, .str x]) as :=
  ⟨_, reads_tuple_at (N.get h1) rfl rfl (.cons (.int _ _) (.cons (.str _ _) .nil))⟩
theorem eqv_pair : PyData.eqv (.tuple [.int a, .str x]) (.tuple [.int b, .str y]) = (decide (a = b) && decide (x = y)) := by
  simp only [PyData.eqv, PyData.eqvAll, Bool.and_true]
  by_cases h1 : a = b <;> by_cases h2 : x = y <;> simp [h1, h2]
theorem shaped_pair (hx : PyData.strOk x = true) : SeqAt.shaped (.tuple [.int a, .str x]) = true := by simp [SeqAt.shaped, PyData.canLay0, PyData.canLayAll0, PyData.depth, PyData.depthAll, hx]
theorem ne_pairs (N : News h₀ L s.heap news) (h1 : (l1, tup2 (.int a t) (.str x u)) ∈ news) (h2 : (l2, tup2 (.int b t') (.str y u')) ∈ news) (hx : PyData.strOk x = true) (hy : PyData.strOk y = true) (hu : A.units + 64 < cLine) (h : Q (.bool (!(decide (a = b) && decide (x = y)))) s) :
    wpAny (model prog w) A (compareOp .NotEq (.ref l1) (.ref l2)) Q E s := by
  obtain ⟨_, r1⟩ := pair_reads N h1
  obtain ⟨_, r2⟩ := pair_reads N h2
  exact ne_dataH r1 r2 (shaped_pair hx) (shaped_pair hy) hu (by rw [eqv_pair]; exact h)
theorem eq_pairs (N : News h₀ L s.heap news) (h1 : (l1, tup2 (.int a t) (.str x u)) ∈ news) (h2 : (l2, tup2 (.int b t') (.str y u')) ∈ news) (hx : PyData.strOk x = true) (hy : PyData.strOk y = true) (hu : A.units + 64 < cLine) (h : Q (.bool (decide (a = b) && decide (x = y))) s) :
    wpAny (model prog w) A (compareOp .Eq (.ref l1) (.ref l2)) Q E s := by
  obtain ⟨_, r1⟩ := pair_reads N h1
  obtain ⟨_, r2⟩ := pair_reads N h2
  exact eq_dataH r1 r2 (shaped_pair hx) (shaped_pair hy) hu (by rw [eqv_pair]; exact h)
theorem ne_pairs_same (N : News h₀ L s.heap news) (h1 : (l1, tup2 (.int a t) (.str x u)) ∈ news) (h2 : (l2, tup2 (.int b t') (.str y u')) ∈ news) (hy : PyData.strOk y = true) (hu : A.units + 64 < cLine) (e1 : a = b) (e2 : x = y) (h : Q (.bool false) s) :
    wpAny (model prog w) A (compareOp .NotEq (.ref l1) (.ref l2)) Q E s := ne_pairs N h1 h2 (e2 ▸ hy) hy hu (by subst e1; subst e2; simpa using h)
end
set_option maxHeartbeats 2000000 in
theorem turn_1 {fa : Addr} {o6 o5 o4 o3 o2 o1 : Obj} (L : Addr) (ccd : Value) (h₀ : Heap) (s : Shared) (Q : Flow → Shared → Prop) (E : Value → Shared → Prop)
    (B : Below callerA h₀ [] h₀) (X : (Mine.hd.heap_1 w.params).In h₀) (T : Top Mine.view_ loose mean mg mb h₀) 
    {d gx lc v g : Addr} {vs us : List Value} {ds codes : List Int} {b : Int} {tb : Tok} {nn n2 : Nat} {R : List (Addr × Obj)} {ha hb hc : Int} {ka kb kc : Nat} (hi : IntsAre us codes) (hok : CodesOk codes) (hdi : IntsAre vs ds) (hdo : DeckOk ds) (hbb : 1 ≤ b ∧ b ≤ 8) (hd : @LT.lt Nat _ (L + 6) d) (hgx : @LT.lt Nat _ d gx) {u : Str → Option Value}
    (hv : ViewAt R v codes) (hg : (g, instObj 157 gx) ∈ R) (hlc : (lc, listOf us.toArray n2) ∈ R) (hR1 : ∀ p ∈ R, p.1 ≠ d) (hR2 : ∀ p ∈ R, p.1 ≠ gx) (hRc : ∀ p ∈ R, ∀ c : Nat, @LE.le Nat _ (L + 1) c → @LE.le Nat _ c (L + 6) → @Ne Nat p.1 c) {ll : Addr} {lus : List Value} {lls : List Str} (hll : StrsAre lus lls) (hln : 1 ≤ lls.length ∧ lls.length ≤ 27 ∧ ∀ x ∈ lls, x.length ≤ 26) (dc1 : o1.data = .cell (some (.ref ll))) (hlm : (ll, listOf lus.toArray 0) ∈ R) {ls : Addr} {sus : List Value} (hsi : IntsAre sus (startsL lls)) (hlsm : (ls, listOf sus.toArray sus.length) ∈ R) {f : Bool} {P : Int} {tp : Tok} (dc2 : o2.data = .cell (some (.int P tp))) (hP : 1 ≤ P ∧ P ≤ 1 + (codes.length : Int)) {at0 : Int} {ta : Tok}{col : Value} {ie : Bool}
    (F : Fr h₀ L s.heap (kstB u [(Str.ofString "_law_deck", .ref d), (Str.ofString "_law_codes", .ref lc), (Str.ofString "_law_width", .int b tb), (Str.ofString "_law_view", .ref v), (Str.ofString "_law_goal", .ref g), (Str.ofString "_law_starts", .ref ls), (Str.ofString "_law_follows", .bool f), (Str.ofString "_law_at", .int at0 ta)])) (N : News h₀ L s.heap ((gx, goalE ha hb hc ka kb kc 3 col ie) :: (d, listOf vs.toArray nn) :: (L + 1 + 1 + 1 + 1 + 1 + 1, o6) :: (L + 1 + 1 + 1 + 1 + 1, o5) :: (L + 1 + 1 + 1 + 1, o4) :: (L + 1 + 1 + 1, o3) :: (L + 1 + 1, o2) :: (L + 1, o1) :: R)) {c3 : Option Value} (dc3 : o3.data = .cell c3)
    
    (hQ : ∀ vs' ds' nn' h' tk', Fr h₀ L h' (kstB u [(Str.ofString "_law_deck", .ref d), (Str.ofString "_law_codes", .ref lc), (Str.ofString "_law_width", .int b tb), (Str.ofString "_law_view", .ref v), (Str.ofString "_law_goal", .ref g), (Str.ofString "_law_starts", .ref ls), (Str.ofString "_law_follows", .bool f), (Str.ofString "_law_at", .int at0 ta)]) → News h₀ L h' ((gx, goalE ha hb hc ka kb kc 3 col ie) :: (d, listOf vs'.toArray nn') :: (L + 1 + 1 + 1 + 1 + 1 + 1, o6) :: (L + 1 + 1 + 1 + 1 + 1, o5) :: (L + 1 + 1 + 1 + 1, o4) :: (L + 1 + 1 + 1, o3) :: (L + 1 + 1, o2) :: (L + 1, o1) :: R) → IntsAre vs' ds' → DeckOk ds' → Q .next { s with heap := h', toks := tk' })
    (hQc : ∀ P' tp' vs' ds' nn' o2 o3 u' h' tk', o2.data = .cell (some (.int P' tp')) → o3.data = .cell (some .none) → Fr h₀ L h' (kstB u' [(Str.ofString "_law_deck", .ref d), (Str.ofString "_law_codes", .ref lc), (Str.ofString "_law_width", .int b tb), (Str.ofString "_law_view", .ref v), (Str.ofString "_law_goal", .ref g), (Str.ofString "_law_starts", .ref ls), (Str.ofString "_law_follows", .bool f)]) → News h₀ L h' ((gx, goalE ha hb hc ka kb kc 3 .none false) :: (d, listOf vs'.toArray nn') :: (L + 1 + 1 + 1 + 1 + 1 + 1, o6) :: (L + 1 + 1 + 1 + 1 + 1, o5) :: (L + 1 + 1 + 1 + 1, o4) :: (L + 1 + 1 + 1, o3) :: (L + 1 + 1, o2) :: (L + 1, o1) :: R) → 1 ≤ P' → P' ≤ 1 + (codes.length : Int) → IntsAre vs' ds' → DeckOk ds' → Q .cont { s with heap := h', toks := tk' }) : wpAny (model PySem.Challenge.rw_np0031_01.row.prog w) (callerA.deeper (envOfC (Str.ofString "law") lawScope L fa ccd)) (exec (loopStmt 1) (envOfC (Str.ofString "law") lawScope L fa ccd)) Q E s := by
  k_with_none
  w_top off
  revert X
  k_fill
  intro X
  conv => enter [3, 1]; whnf
  conv in (occs := *) lawScope => all_goals whnf
  have hcl := hok.2.2
  k_steps
  iterate 3 (
    (rename News _ _ _ _ => N9)
    refine ne_pairs_same N9 (by k_mem) (by k_mem) (by decide +kernel) (by first | units_room | exact Nat.le_of_ble_eq_true rfl) ?e1 ?e2 ?_
    case e1 => (unfold clampV; (repeat' split) <;> omega)
    case e2 => (unfold wordOf clampV; (repeat' split) <;> first | rfl | (exfalso; omega))
    k_steps
    (rename News _ _ _ _ => N9); (rename Fr _ _ _ _ => F9)
    exact hQc _ _ _ _ _ _ _ _ _ _ (by assumption) (by assumption) (fr_self _ F9 (by kst_all)) (cb_drop N9 (by kst_allIn)) (by (repeat' split) <;> omega) (by (repeat' split) <;> omega) (by assumption) (by assumption))
  (rename News _ _ _ _ => N9); (rename Fr _ _ _ _ => F9)
  exact hQ _ _ _ _ _ F9 N9 (by assumption) (by assumption)

theorem getD_short {lls : List Str} (h : 1 ≤ lls.length ∧ lls.length ≤ 27 ∧ ∀ x ∈ lls, x.length ≤ 26) (n : Nat) : (lls.getD n Str.empty).length ≤ 26 := by
  rw [List.getD_eq_getElem?_getD]
  cases e : lls[n]? with
  | none => exact Nat.zero_le _
  | some y => exact h.2.2 y (List.mem_of_getElem? e)
theorem isEnd_iff {codes : List Int} {P : Int} (hP : 1 ≤ P ∧ P ≤ 1 + (codes.length : Int)) : isEnd codes P = decide (leN codes (P - 1).toNat = (P - 1).toNat) := by
  unfold isEnd
  by_cases h : leN codes (P - 1).toNat = (P - 1).toNat
  · rw [decide_eq_true h]
    refine decide_eq_true ?_
    by_cases hn : P = 1 + (codes.length : Int)
    · exact .inl hn
    · right
      refine Classical.byContradiction fun hc => ?_
      have : leN codes (P - 1).toNat = leN codes ((P - 1).toNat + 1) := leN_step ⟨by omega, by unfold codeAt at hc; rw [if_pos ⟨by omega, by omega⟩] at hc; exact hc⟩
      have := leN_ge codes ((P - 1).toNat + 1)
      omega
  · rw [decide_eq_false h]
    refine decide_eq_false ?_
    rintro (hn | hn)
    · exact h (leN_stop (by omega))
    · refine h (leN_stop ?_)
      rintro ⟨h1, h2⟩
      unfold codeAt at hn
      rw [if_pos ⟨by omega, by omega⟩] at hn
      exact h2 hn
theorem str_ne_empty (x : Str) : (x != Str.ofString "") = decide (0 < x.length) := by
  by_cases h : x = Str.ofString ""
  · subst h; decide +kernel
  · rw [bne_iff_ne.mpr h]
    symm
    refine decide_eq_true (Nat.pos_of_ne_zero fun e => h (Str.ext' ?_))
    have : x.cps = #[] := Array.eq_empty_of_size_eq_zero e
    rw [this]; rfl
section
variable {codes : List Int} {P S : Int} {x : Str} {f : Bool}
theorem ie_yes (hP : 1 ≤ P ∧ P ≤ 1 + (codes.length : Int)) (hS : S = 1 + (lsN codes (P - 1).toNat : Int)) (hej : lsN codes (P - 1).toNat + x.length = leN codes (P - 1).toNat) (hf : f = true) (hp : P = S + (x.length : Int)) : (x != Str.ofString "") = beginIe codes f P := by
  unfold beginIe
  rw [hf, isEnd_iff hP, str_ne_empty, show decide (leN codes (P - 1).toNat = (P - 1).toNat) = true from decide_eq_true (by omega)]
  by_cases h : 0 < x.length
  · rw [decide_eq_true h, show decide (1 + (lsN codes (P - 1).toNat : Int) < P) = true from decide_eq_true (by omega)]; rfl
  · rw [decide_eq_false h, show decide (1 + (lsN codes (P - 1).toNat : Int) < P) = false from decide_eq_false (by omega)]; rfl
theorem ie_no (hP : 1 ≤ P ∧ P ≤ 1 + (codes.length : Int)) (hS : S = 1 + (lsN codes (P - 1).toNat : Int)) (hej : lsN codes (P - 1).toNat + x.length = leN codes (P - 1).toNat) (hp : P ≠ S + (x.length : Int)) : (P == S + (x.length : Int)) = beginIe codes f P := by
  rw [beq_false_of_ne hp]
  unfold beginIe
  rw [isEnd_iff hP, show decide (leN codes (P - 1).toNat = (P - 1).toNat) = false from decide_eq_false (by omega), Bool.false_and, Bool.and_false]
theorem ie_off (hf : f = false) : f = beginIe codes f P := by rw [hf]; rfl
end
theorem goal_begin_any {v g gx : Addr} {codes : List Int} {x b : Int} {ie f : Bool} {tx ty : Tok} {ga gb gc : Int} {gk1 gk2 gk3 : Nat} {col : Value} (hv : ViewAt news v codes) (hg : (g, instObj 157 gx) ∈ news) (hgd : (gx, goalE ga gb gc gk1 gk2 gk3 3 col ie) ∈ news) (hx : 1 ≤ x ∧ x ≤ 1 + (codes.length : Int)) (hb : 1 ≤ b) :
    Cl w loose mean mg mb 133 news [.ref g, .ref v, .int x tx, .int b ty, .bool f] 5 (fun r nx' => r = .none ∧ ∃ t, nx' = setL gx (goalE ga gb gc gk1 gk2 gk3 3 (.int (colF codes b (lsN codes (x - 1).toNat) ((x - 1).toNat - lsN codes (x - 1).toNat)) t) (beginIe codes f x)) news) := by
  intro dp un gd cn cs a ccd cl outer A₀ base h₀ L m s Q E B F X N T hk hd' hu hret
  have hat := at_offL N hgd
  refine cl_use (goal_begin_ (news := (gx, goalE ga gb gc gk1 gk2 gk3 3 col ie) :: offL gx news) (nx := fun t => (gx, goalE ga gb gc gk1 gk2 gk3 3 (.int (colF codes b (lsN codes (x - 1).toNat) ((x - 1).toNat - lsN codes (x - 1).toNat)) t) (beginIe codes f x)) :: offL gx news) (f := f) (hv.mono hat) (hat _ hg) (fun t => .head offL_ne) hx hb) B F X (news_offL N hgd) T hk hd' hu ?_
  rintro r nx h' tk' F' N' ⟨rfl, t, rfl⟩
  exact hret _ _ _ _ F' (news_ofOff N') ⟨rfl, t, rfl⟩
section
variable {prog : Program} {A : Around} {E : Value → Shared → Prop} {s : Shared}
theorem str_item {value slice : PySem.Expr} {l : Addr} {vs : List Value} {lls : List Str} {k : Int} {u : Tok} {x : Str} {n : Nat} {Q : Value → Shared → Prop}
    (hl : s.heap.IsList l vs.toArray) (hi : StrsAre vs lls) (hx : lls[n]? = some x) (hk : k = (n : Int)) (hn : n < 1000) (h : ∀ t, Q (.str x t) s)
    (hs : subscripted slice false (.ref l) (.int k u) = operate [.ref l, .int k u] (getItem (.ref l) (.int k u)) := by with_unfolding_all rfl) :
    wpAny (model prog w) A (subscriptTail value slice (.ref l) (.int k u)) Q E s := by
  have hlt : n < lls.length := (List.getElem?_eq_some_iff.mp hx).1
  have hv : ∃ v, vs[n]? = some v := ⟨_, List.getElem?_eq_getElem (by rw [hi.length]; exact hlt)⟩
  obtain ⟨v, hv⟩ := hv
  obtain ⟨y, e, hy⟩ := hi.areOf.get n v hv
  obtain ⟨t, rfl⟩ := ItemKind.str_is hy
  rw [hx] at e
  cases e
  exact tail_any hl.typeIs slot_list_getitem.lookup (wpAny_getItem_list hl (by omega) (by omega) (by rw [show k.toNat = n from by omega]; simpa using hv) (h t)) hs
end
local macro_rules | `(tactic| walk_at "np 133") => `(tactic| (k_whole; intro r9 nx9 h9 tk9 F9 N9 p9; (obtain ⟨e8, t9, e9⟩ := p9); subst e8; subst e9; (replace N9 := news_setL N9 (by k_upd)); (try dsimp only); (try k_fold)))
set_option hygiene false in
local macro_rules | `(tactic| walk_at "call ref") => `(tactic| (k_here; k_dflt (show wpAny _ _ (call (Value.ref 133) [Value.ref _, Value.ref _, Value.int _ _, Value.int _ _, Value.bool _]) _ _ _; refine' cl_go (goal_begin_any ?kv ?kg ?kd ?kx ?kb) ?k1 ?_; walk_at "np s"; (case kv => tb_rel); (case kg => k_mem); (case kd => k_mem); (case kx => first | omega | exact Nat.le_trans (getD_short (by assumption) _) (by decide)); (case kb => omega); walk_at "np 133")))
local macro_rules | `(tactic| walk_at "np 256") => `(tactic| (k_whole; intro r9 nx9 h9 tk9 F9 N9 p9; (obtain ⟨l9, us9, n9, e8, e9, i9, q9⟩ := p9); subst e8; subst e9; (try k_lt q9); (try dsimp only); (try k_fold)))
set_option hygiene false in
local macro_rules | `(tactic| walk_at "call ref") => `(tactic| (k_here; k_dflt (show wpAny _ _ (call (Value.ref 256) [Value.str _ _, Value.int _ _]) _ _ _; refine' cl_go (columns_ ?kb ?kx) ?k1 ?_; walk_at "np s"; (case kx => first | omega | exact Nat.le_trans (getD_short (by assumption) _) (by decide)); (case kb => omega); walk_at "np 256")))
local macro_rules | `(tactic| walk_at "subscriptTail") => `(tactic| (k_here; (with_reducible show wpAny _ _ (subscriptTail _ _ (Value.ref _) (Value.int _ _)) _ _ _); k_dflt (refine' str_item ?l ?i ?x ?k ?n ?_; (case l => exact News.isList (by k_asm) (by k_mem)); (case i => with_reducible assumption); (case x => with_reducible assumption); (case k => first | rfl | omega); (case n => omega); k_whole); intro t9))
set_option maxHeartbeats 2000000 in
theorem turn_2a {fa : Addr} {o6 o5 o4 o3 o2 o1 : Obj} (L : Addr) (ccd : Value) (h₀ : Heap) (s : Shared) (Q : Flow → Shared → Prop) (E : Value → Shared → Prop)
    (B : Below callerA h₀ [] h₀) (X : (Mine.hd.heap_1 w.params).In h₀) (T : Top Mine.view_ loose mean mg mb h₀) 
    {d gx lc v g : Addr} {vs us : List Value} {ds codes : List Int} {b : Int} {tb : Tok} {nn n2 : Nat} {R : List (Addr × Obj)} {ha hb hc : Int} {ka kb kc : Nat} (hi : IntsAre us codes) (hok : CodesOk codes) (hdi : IntsAre vs ds) (hdo : DeckOk ds) (hbb : 1 ≤ b ∧ b ≤ 8) (hd : @LT.lt Nat _ (L + 6) d) (hgx : @LT.lt Nat _ d gx) {u : Str → Option Value}
    (hv : ViewAt R v codes) (hg : (g, instObj 157 gx) ∈ R) (hlc : (lc, listOf us.toArray n2) ∈ R) (hR1 : ∀ p ∈ R, p.1 ≠ d) (hR2 : ∀ p ∈ R, p.1 ≠ gx) (hRc : ∀ p ∈ R, ∀ c : Nat, @LE.le Nat _ (L + 1) c → @LE.le Nat _ c (L + 6) → @Ne Nat p.1 c) {ll : Addr} {lus : List Value} {lls : List Str} (hll : StrsAre lus lls) (hln : 1 ≤ lls.length ∧ lls.length ≤ 27 ∧ ∀ x ∈ lls, x.length ≤ 26) (dc1 : o1.data = .cell (some (.ref ll))) (hlm : (ll, listOf lus.toArray 0) ∈ R) {ls : Addr} {sus : List Value} (hsi : IntsAre sus (startsL lls)) (hlsm : (ls, listOf sus.toArray sus.length) ∈ R) {f : Bool} {P : Int} {tp : Tok} (dc2 : o2.data = .cell (some (.int P tp))) (hP : 1 ≤ P ∧ P ≤ 1 + (codes.length : Int)) {j : Nat} {ta : Tok} {x : Str} (hj : lls[j]? = some x) (hsj : (startsL lls).getD ((j : Int)).toNat 0 = 1 + (lsN codes (P - 1).toNat : Int)) (hej : lsN codes (P - 1).toNat + x.length = leN codes (P - 1).toNat)
    (hcol : (colsG b (KStt.codes x)).getD (P - (1 + (lsN codes (P - 1).toNat : Int))).toNat 0 = colF codes b (lsN codes (P - 1).toNat) ((P - 1).toNat - lsN codes (P - 1).toNat)) (hle : (P - 1).toNat ≤ leN codes (P - 1).toNat) (hlsle : lsN codes (P - 1).toNat ≤ (P - 1).toNat)
    {col : Value} {ie : Bool}
    (F : Fr h₀ L s.heap (kstB u [(Str.ofString "_law_deck", .ref d), (Str.ofString "_law_codes", .ref lc), (Str.ofString "_law_width", .int b tb), (Str.ofString "_law_view", .ref v), (Str.ofString "_law_goal", .ref g), (Str.ofString "_law_starts", .ref ls), (Str.ofString "_law_follows", .bool f), (Str.ofString "_law_at", .int (j : Int) ta)])) (N : News h₀ L s.heap ((gx, goalE ha hb hc ka kb kc 3 col ie) :: (d, listOf vs.toArray nn) :: (L + 1 + 1 + 1 + 1 + 1 + 1, o6) :: (L + 1 + 1 + 1 + 1 + 1, o5) :: (L + 1 + 1 + 1 + 1, o4) :: (L + 1 + 1 + 1, o3) :: (L + 1 + 1, o2) :: (L + 1, o1) :: R)) (dc3 : o3.data = .cell (some .none))
    (hQ : ∀ ht t t' o3' u' h' tk', o3'.data = .cell (some (.ref ht)) → Fr h₀ L h' (kstB u' [(Str.ofString "_law_deck", .ref d), (Str.ofString "_law_codes", .ref lc), (Str.ofString "_law_width", .int b tb), (Str.ofString "_law_view", .ref v), (Str.ofString "_law_goal", .ref g), (Str.ofString "_law_starts", .ref ls), (Str.ofString "_law_follows", .bool f), (Str.ofString "_law_at", .int (j : Int) ta)]) →
      News h₀ L h' ((gx, goalE ha hb hc ka kb kc 3 (.int (colF codes b (lsN codes (P - 1).toNat) ((P - 1).toNat - lsN codes (P - 1).toNat)) t) (beginIe codes f P)) :: (d, listOf vs.toArray nn) :: (L + 1 + 1 + 1 + 1 + 1 + 1, o6) :: (L + 1 + 1 + 1 + 1 + 1, o5) :: (L + 1 + 1 + 1 + 1, o4) :: (L + 1 + 1 + 1, o3') :: (L + 1 + 1, o2) :: (L + 1, o1) :: ((ht, tup2 (.int (colF codes b (lsN codes (P - 1).toNat) ((P - 1).toNat - lsN codes (P - 1).toNat)) t') (.bool (beginIe codes f P))) :: R)) →
      @LT.lt Nat _ gx ht → @LT.lt Nat _ (L + 6) ht → (∀ p ∈ R, p.1 ≠ ht) → Q .next { s with heap := h', toks := tk' }) : wpAny (model PySem.Challenge.rw_np0031_01.row.prog w) (callerA.deeper (envOfC (Str.ofString "law") lawScope L fa ccd)) (exec (loopStmt 2) (envOfC (Str.ofString "law") lawScope L fa ccd)) Q E s := by
  k_with_none
  w_top off
  revert X
  k_fill
  intro X
  conv => enter [3, 1]; whnf
  conv in (occs := *) lawScope => all_goals whnf
  have hcl := hok.2.2
  have hsl := startsL_len lls
  have hxl : x.length ≤ 26 := hln.2.2 x (List.mem_of_getElem? hj)
  have hjl : j < lls.length := (List.getElem?_eq_some_iff.mp hj).1
  have hgl := colsG_len b (KStt.codes x)
  rw [KStt.codes_length] at hgl
  k_steps
  all_goals (
    (rename News _ _ _ _ => N9); (rename Fr _ _ _ _ => F9)
    first
      | (have e := ie_yes hP hsj hej (by assumption) (by assumption); rw [e] at N9)
      | (have e := ie_no (f := f) hP hsj hej (by assumption); rw [e] at N9)
      | (have e := ie_off (codes := codes) (P := P) (f := f) (by first | assumption | (cases f <;> simp_all)); rw [show Value.bool f = Value.bool (beginIe codes f P) from congrArg _ e] at N9)
    rw [hsj, hcol] at N9
    exact hQ _ _ _ _ _ _ _ (by assumption) (fr_self _ F9 (by kst_all)) (cb_drop N9 (by kst_allIn)) (by omega) (by omega) (by kst_allNe))
local macro_rules | `(tactic| walk_at "np 133") => `(tactic| (k_whole; intro r9 nx9 h9 tk9 F9 N9 p9; (obtain ⟨e8, t9, e9⟩ := p9); subst e8; subst e9; (replace N9 := news_setL N9 (by k_upd)); (try dsimp only); (try k_fold)))
set_option hygiene false in
local macro_rules | `(tactic| walk_at "call ref") => `(tactic| (k_here; k_dflt (show wpAny _ _ (call (Value.ref 133) [Value.ref _, Value.ref _, Value.int _ _, Value.int _ _, Value.bool _]) _ _ _; refine' cl_go (goal_begin_any ?kv ?kg ?kd ?kx ?kb) ?k1 ?_; walk_at "np s"; (case kv => tb_rel); (case kg => k_mem); (case kd => k_mem); (case kx => first | omega | exact Nat.le_trans (getD_short (by assumption) _) (by decide)); (case kb => omega); walk_at "np 133")))
local macro_rules | `(tactic| walk_at "np 256") => `(tactic| (k_whole; intro r9 nx9 h9 tk9 F9 N9 p9; (obtain ⟨l9, us9, n9, e8, e9, i9, q9⟩ := p9); subst e8; subst e9; (try k_lt q9); (try dsimp only); (try k_fold)))
set_option hygiene false in
local macro_rules | `(tactic| walk_at "call ref") => `(tactic| (k_here; k_dflt (show wpAny _ _ (call (Value.ref 256) [Value.str _ _, Value.int _ _]) _ _ _; refine' cl_go (columns_ ?kb ?kx) ?k1 ?_; walk_at "np s"; (case kx => first | omega | exact Nat.le_trans (getD_short (by assumption) _) (by decide)); (case kb => omega); walk_at "np 256")))
local macro_rules | `(tactic| walk_at "subscriptTail") => `(tactic| (k_here; (with_reducible show wpAny _ _ (subscriptTail _ _ (Value.ref _) (Value.int _ _)) _ _ _); k_dflt (refine' str_item ?l ?i ?x ?k ?n ?_; (case l => exact News.isList (by k_asm) (by k_mem)); (case i => with_reducible assumption); (case x => with_reducible assumption); (case k => first | rfl | omega); (case n => omega); k_whole); intro t9))
set_option maxHeartbeats 2000000 in
theorem turn_2b {fa : Addr} {o6 o5 o4 o3 o2 o1 : Obj} (L : Addr) (ccd : Value) (h₀ : Heap) (s : Shared) (Q : Flow → Shared → Prop) (E : Value → Shared → Prop)
    (B : Below callerA h₀ [] h₀) (X : (Mine.hd.heap_1 w.params).In h₀) (T : Top Mine.view_ loose mean mg mb h₀) 
    {d gx lc v g : Addr} {vs us : List Value} {ds codes : List Int} {b : Int} {tb : Tok} {nn n2 : Nat} {R : List (Addr × Obj)} {ha hb hc : Int} {ka kb kc : Nat} (hi : IntsAre us codes) (hok : CodesOk codes) (hdi : IntsAre vs ds) (hdo : DeckOk ds) (hbb : 1 ≤ b ∧ b ≤ 8) (hd : @LT.lt Nat _ (L + 6) d) (hgx : @LT.lt Nat _ d gx) {u : Str → Option Value}
    (hv : ViewAt R v codes) (hg : (g, instObj 157 gx) ∈ R) (hlc : (lc, listOf us.toArray n2) ∈ R) (hR1 : ∀ p ∈ R, p.1 ≠ d) (hR2 : ∀ p ∈ R, p.1 ≠ gx) (hRc : ∀ p ∈ R, ∀ c : Nat, @LE.le Nat _ (L + 1) c → @LE.le Nat _ c (L + 6) → @Ne Nat p.1 c) {ll : Addr} {lus : List Value} {lls : List Str} (hll : StrsAre lus lls) (hln : 1 ≤ lls.length ∧ lls.length ≤ 27 ∧ ∀ x ∈ lls, x.length ≤ 26) (dc1 : o1.data = .cell (some (.ref ll))) (hlm : (ll, listOf lus.toArray 0) ∈ R) {ls : Addr} {sus : List Value} (hsi : IntsAre sus (startsL lls)) (hlsm : (ls, listOf sus.toArray sus.length) ∈ R) {f : Bool} {P : Int} {tp : Tok} (dc2 : o2.data = .cell (some (.int P tp))) (hP : 1 ≤ P ∧ P ≤ 1 + (codes.length : Int)) {j : Nat} {ta : Tok} {ht : Addr} {c : Int} {tc1 tc2 : Tok} {ie : Bool} (dc3 : o3.data = .cell (some (.ref ht))) (hht : (ht, tup2 (.int c tc1) (.bool ie)) ∈ R)
    (F : Fr h₀ L s.heap (kstB u [(Str.ofString "_law_deck", .ref d), (Str.ofString "_law_codes", .ref lc), (Str.ofString "_law_width", .int b tb), (Str.ofString "_law_view", .ref v), (Str.ofString "_law_goal", .ref g), (Str.ofString "_law_starts", .ref ls), (Str.ofString "_law_follows", .bool f), (Str.ofString "_law_at", .int (j : Int) ta)])) (N : News h₀ L s.heap ((gx, goalE ha hb hc ka kb kc 3 (.int c tc2) ie) :: (d, listOf vs.toArray nn) :: (L + 1 + 1 + 1 + 1 + 1 + 1, o6) :: (L + 1 + 1 + 1 + 1 + 1, o5) :: (L + 1 + 1 + 1 + 1, o4) :: (L + 1 + 1 + 1, o3) :: (L + 1 + 1, o2) :: (L + 1, o1) :: R))
    (hQ : ∀ h' tk', Fr h₀ L h' (kstB u [(Str.ofString "_law_deck", .ref d), (Str.ofString "_law_codes", .ref lc), (Str.ofString "_law_width", .int b tb), (Str.ofString "_law_view", .ref v), (Str.ofString "_law_goal", .ref g), (Str.ofString "_law_starts", .ref ls), (Str.ofString "_law_follows", .bool f), (Str.ofString "_law_at", .int (j : Int) ta)]) → News h₀ L h' ((gx, goalE ha hb hc ka kb kc 3 (.int c tc2) ie) :: (d, listOf vs.toArray nn) :: (L + 1 + 1 + 1 + 1 + 1 + 1, o6) :: (L + 1 + 1 + 1 + 1 + 1, o5) :: (L + 1 + 1 + 1 + 1, o4) :: (L + 1 + 1 + 1, o3) :: (L + 1 + 1, o2) :: (L + 1, o1) :: R) → Q .next { s with heap := h', toks := tk' }) : wpAny (model PySem.Challenge.rw_np0031_01.row.prog w) (callerA.deeper (envOfC (Str.ofString "law") lawScope L fa ccd)) (exec (loopStmt 2) (envOfC (Str.ofString "law") lawScope L fa ccd)) Q E s := by
  k_with_none
  w_top off
  revert X
  k_fill
  intro X
  conv => enter [3, 1]; whnf
  conv in (occs := *) lawScope => all_goals whnf
  k_steps
  (rename News _ _ _ _ => N9); (rename Fr _ _ _ _ => F9)
  exact hQ _ _ F9 N9
set_option maxHeartbeats 2000000 in
theorem turn_3 {fa : Addr} {o6 o5 o4 o3 o2 o1 : Obj} (L : Addr) (ccd : Value) (h₀ : Heap) (s : Shared) (Q : Flow → Shared → Prop) (E : Value → Shared → Prop)
    (B : Below callerA h₀ [] h₀) (X : (Mine.hd.heap_1 w.params).In h₀) (T : Top Mine.view_ loose mean mg mb h₀) 
    {d gx lc v g : Addr} {vs us : List Value} {ds codes : List Int} {b : Int} {tb : Tok} {nn n2 : Nat} {R : List (Addr × Obj)} {ha hb hc : Int} {ka kb kc : Nat} (hi : IntsAre us codes) (hok : CodesOk codes) (hdi : IntsAre vs ds) (hdo : DeckOk ds) (hbb : 1 ≤ b ∧ b ≤ 8) (hd : @LT.lt Nat _ (L + 6) d) (hgx : @LT.lt Nat _ d gx) {u : Str → Option Value}
    (hv : ViewAt R v codes) (hg : (g, instObj 157 gx) ∈ R) (hlc : (lc, listOf us.toArray n2) ∈ R) (hR1 : ∀ p ∈ R, p.1 ≠ d) (hR2 : ∀ p ∈ R, p.1 ≠ gx) (hRc : ∀ p ∈ R, ∀ c : Nat, @LE.le Nat _ (L + 1) c → @LE.le Nat _ c (L + 6) → @Ne Nat p.1 c) {ll : Addr} {lus : List Value} {lls : List Str} (hll : StrsAre lus lls) (hln : 1 ≤ lls.length ∧ lls.length ≤ 27 ∧ ∀ x ∈ lls, x.length ≤ 26) (dc1 : o1.data = .cell (some (.ref ll))) (hlm : (ll, listOf lus.toArray 0) ∈ R) {ls : Addr} {sus : List Value} (hsi : IntsAre sus (startsL lls)) (hlsm : (ls, listOf sus.toArray sus.length) ∈ R) {f : Bool} {P : Int} {tp : Tok} (dc2 : o2.data = .cell (some (.int P tp))) (hP : 1 ≤ P ∧ P ≤ 1 + (codes.length : Int)) {j : Nat} {ta : Tok} {ht : Addr} {c : Int} {tc1 tc2 : Tok} {ie : Bool} (dc3 : o3.data = .cell (some (.ref ht))) (hht : (ht, tup2 (.int c tc1) (.bool ie)) ∈ R)
    (F : Fr h₀ L s.heap (kstB u [(Str.ofString "_law_deck", .ref d), (Str.ofString "_law_codes", .ref lc), (Str.ofString "_law_width", .int b tb), (Str.ofString "_law_view", .ref v), (Str.ofString "_law_goal", .ref g), (Str.ofString "_law_starts", .ref ls), (Str.ofString "_law_follows", .bool f), (Str.ofString "_law_at", .int (j : Int) ta)])) (N : News h₀ L s.heap ((gx, goalE ha hb hc ka kb kc 3 (.int c tc2) ie) :: (d, listOf vs.toArray nn) :: (L + 1 + 1 + 1 + 1 + 1 + 1, o6) :: (L + 1 + 1 + 1 + 1 + 1, o5) :: (L + 1 + 1 + 1 + 1, o4) :: (L + 1 + 1 + 1, o3) :: (L + 1 + 1, o2) :: (L + 1, o1) :: R))
    (hQ : ∀ many tm vs' ds' nn' u' h' tk', Fr h₀ L h' (kstB u' [(Str.ofString "_law_deck", .ref d), (Str.ofString "_law_codes", .ref lc), (Str.ofString "_law_width", .int b tb), (Str.ofString "_law_view", .ref v), (Str.ofString "_law_goal", .ref g), (Str.ofString "_law_starts", .ref ls), (Str.ofString "_law_follows", .bool f), (Str.ofString "_law_at", .int (j : Int) ta), (Str.ofString "_law_many", .int many tm)]) → News h₀ L h' ((gx, goalE ha hb hc ka kb kc 3 (.int c tc2) ie) :: (d, listOf vs'.toArray nn') :: (L + 1 + 1 + 1 + 1 + 1 + 1, o6) :: (L + 1 + 1 + 1 + 1 + 1, o5) :: (L + 1 + 1 + 1 + 1, o4) :: (L + 1 + 1 + 1, o3) :: (L + 1 + 1, o2) :: (L + 1, o1) :: R) → -2 ≤ many → many ≤ 2 → IntsAre vs' ds' → DeckOk ds' → Q .next { s with heap := h', toks := tk' }) : wpAny (model PySem.Challenge.rw_np0031_01.row.prog w) (callerA.deeper (envOfC (Str.ofString "law") lawScope L fa ccd)) (exec (loopStmt 3) (envOfC (Str.ofString "law") lawScope L fa ccd)) Q E s := by
  k_with_none
  w_top off
  revert X
  k_fill
  intro X
  conv => enter [3, 1]; whnf
  conv in (occs := *) lawScope => all_goals whnf
  k_steps
  (rename News _ _ _ _ => N9); (rename Fr _ _ _ _ => F9)
  exact hQ _ _ _ _ _ _ _ _ (fr_self _ F9 (by kst_all)) (cb_drop N9 (by kst_allIn)) (by omega) (by omega) (by assumption) (by assumption)

/-- what goal_target tells -/
def gtV (codes : List Int) (b c : Int) (ie : Bool) (P many : Int) : Int × Str :=
  if 0 ≤ many then (if (dwK codes (lsN codes (P - 1).toNat) many.toNat).2 = true then (1 + ((dwK codes (lsN codes (P - 1).toNat) many.toNat).1 : Int), Str.ofString "end-of-buffer") else (placeOn codes b c ie (1 + ((dwK codes (lsN codes (P - 1).toNat) many.toNat).1 : Int)), Str.ofString ""))
  else if (ltV codes P many).2 = 0 then (placeOn codes b c ie (ltV codes P many).1, Str.ofString "") else ((ltV codes P many).1, Str.ofString "beginning-of-buffer")
def reachL (row : List Int) (c : Int) (n : Nat) : List Int := ((List.range n).map fun (i : Nat) => (i : Int)).filter fun s => decide (c ≤ row.getD s.toNat 0)
def reach0 (row : List Int) (c : Int) : Int := (reachL row c row.length ++ [(row.length : Int) - 1]).getD 0 0
theorem reachL_len (row : List Int) (c : Int) (n : Nat) : (reachL row c n).length ≤ n := by
  unfold reachL
  refine Nat.le_trans (List.length_filter_le _ _) ?_
  rw [List.length_map, List.length_range]; exact Nat.le_refl _
theorem reachL_succ_yes {row : List Int} {c : Int} {n : Nat} (h : c ≤ row.getD n 0) : reachL row c (n + 1) = reachL row c n ++ [(n : Int)] := by
  unfold reachL
  rw [List.range_succ, List.map_append, List.filter_append]
  simp only [List.map_cons, List.map_nil, List.filter_cons, Int.toNat_natCast, List.filter_nil]
  rw [if_pos (by simpa using h)]
theorem reachL_succ_no {row : List Int} {c : Int} {n : Nat} (h : ¬ c ≤ row.getD n 0) : reachL row c (n + 1) = reachL row c n := by
  unfold reachL
  rw [List.range_succ, List.map_append, List.filter_append]
  simp only [List.map_cons, List.map_nil, List.filter_cons, Int.toNat_natCast, List.filter_nil]
  rw [if_neg (by simpa using h), List.append_nil]
set_option maxHeartbeats 2000000 in
theorem turn_4 {fa : Addr} {o6 o5 o4 o3 o2 o1 : Obj} (L : Addr) (ccd : Value) (h₀ : Heap) (s : Shared) (Q : Flow → Shared → Prop) (E : Value → Shared → Prop)
    (B : Below callerA h₀ [] h₀) (X : (Mine.hd.heap_1 w.params).In h₀) (T : Top Mine.view_ loose mean mg mb h₀) 
    {d gx lc v g : Addr} {vs us : List Value} {ds codes : List Int} {b : Int} {tb : Tok} {nn n2 : Nat} {R : List (Addr × Obj)} {ha hb hc : Int} {ka kb kc : Nat} (hi : IntsAre us codes) (hok : CodesOk codes) (hdi : IntsAre vs ds) (hdo : DeckOk ds) (hbb : 1 ≤ b ∧ b ≤ 8) (hd : @LT.lt Nat _ (L + 6) d) (hgx : @LT.lt Nat _ d gx) {u : Str → Option Value}
    (hv : ViewAt R v codes) (hg : (g, instObj 157 gx) ∈ R) (hlc : (lc, listOf us.toArray n2) ∈ R) (hR1 : ∀ p ∈ R, p.1 ≠ d) (hR2 : ∀ p ∈ R, p.1 ≠ gx) (hRc : ∀ p ∈ R, ∀ c : Nat, @LE.le Nat _ (L + 1) c → @LE.le Nat _ c (L + 6) → @Ne Nat p.1 c) {ll : Addr} {lus : List Value} {lls : List Str} (hll : StrsAre lus lls) (hln : 1 ≤ lls.length ∧ lls.length ≤ 27 ∧ ∀ x ∈ lls, x.length ≤ 26) (dc1 : o1.data = .cell (some (.ref ll))) (hlm : (ll, listOf lus.toArray 0) ∈ R) {ls : Addr} {sus : List Value} (hsi : IntsAre sus (startsL lls)) (hlsm : (ls, listOf sus.toArray sus.length) ∈ R) {f : Bool} {P : Int} {tp : Tok} (dc2 : o2.data = .cell (some (.int P tp))) (hP : 1 ≤ P ∧ P ≤ 1 + (codes.length : Int)) {j : Nat} {ta : Tok} {ht : Addr} {c : Int} {tc1 tc2 : Tok} {ie : Bool} (dc3 : o3.data = .cell (some (.ref ht))) (hht : (ht, tup2 (.int c tc1) (.bool ie)) ∈ R) {many : Int} {tm : Tok} (hm : -2 ≤ many ∧ many ≤ 2) (hjl : j < lls.length) {c4 : Option Value} (dc4 : o4.data = .cell c4)
    (F : Fr h₀ L s.heap (kstB u [(Str.ofString "_law_deck", .ref d), (Str.ofString "_law_codes", .ref lc), (Str.ofString "_law_width", .int b tb), (Str.ofString "_law_view", .ref v), (Str.ofString "_law_goal", .ref g), (Str.ofString "_law_starts", .ref ls), (Str.ofString "_law_follows", .bool f), (Str.ofString "_law_at", .int (j : Int) ta), (Str.ofString "_law_many", .int many tm)])) (N : News h₀ L s.heap ((gx, goalE ha hb hc ka kb kc 3 (.int c tc2) ie) :: (d, listOf vs.toArray nn) :: (L + 1 + 1 + 1 + 1 + 1 + 1, o6) :: (L + 1 + 1 + 1 + 1 + 1, o5) :: (L + 1 + 1 + 1 + 1, o4) :: (L + 1 + 1 + 1, o3) :: (L + 1 + 1, o2) :: (L + 1, o1) :: R))
    (hA : 0 ≤ (j : Int) + many → (j : Int) + many < (lls.length : Int) → gtV codes b c ie P many = ((startsL lls).getD ((j : Int) + many).toNat 0 + (if ie = true then ((lls.getD ((j : Int) + many).toNat Str.empty).length : Int) else reach0 (colsG b (KStt.codes (lls.getD ((j : Int) + many).toNat Str.empty))) c), Str.ofString ""))
    (hB : ¬ (0 ≤ (j : Int) + many ∧ (j : Int) + many < (lls.length : Int)) → 0 < many → gtV codes b c ie P many = ((codes.length : Int) + 1, Str.ofString "end-of-buffer"))
    (hC : ¬ (0 ≤ (j : Int) + many ∧ (j : Int) + many < (lls.length : Int)) → ¬ 0 < many → gtV codes b c ie P many = (1, Str.ofString "beginning-of-buffer"))
    (hQ : ∀ dt V W t t' o4' u' h' tk', Fr h₀ L h' (kstB u' [(Str.ofString "_law_deck", .ref d), (Str.ofString "_law_codes", .ref lc), (Str.ofString "_law_width", .int b tb), (Str.ofString "_law_view", .ref v), (Str.ofString "_law_goal", .ref g), (Str.ofString "_law_starts", .ref ls), (Str.ofString "_law_follows", .bool f), (Str.ofString "_law_at", .int (j : Int) ta), (Str.ofString "_law_many", .int many tm), (Str.ofString "_law_due", .ref dt)]) → News h₀ L h' ((dt, tup2 (.int V t) (.str W t')) :: ((gx, goalE ha hb hc ka kb kc 3 (.int c tc2) ie) :: (d, listOf vs.toArray nn) :: (L + 1 + 1 + 1 + 1 + 1 + 1, o6) :: (L + 1 + 1 + 1 + 1 + 1, o5) :: (L + 1 + 1 + 1 + 1, o4') :: (L + 1 + 1 + 1, o3) :: (L + 1 + 1, o2) :: (L + 1, o1) :: R)) → (V, W) = gtV codes b c ie P many → @LT.lt Nat _ gx dt → @LT.lt Nat _ (L + 6) dt → (∃ c4, o4'.data = .cell c4) → Q .next { s with heap := h', toks := tk' }) : wpAny (model PySem.Challenge.rw_np0031_01.row.prog w) (callerA.deeper (envOfC (Str.ofString "law") lawScope L fa ccd)) (exec (loopStmt 4) (envOfC (Str.ofString "law") lawScope L fa ccd)) Q E s := by
  k_with_none
  w_top off
  revert X
  k_fill
  intro X
  conv => enter [3, 1]; whnf
  conv in (occs := *) lawScope => all_goals whnf
  have hcl := hok.2.2
  have hsl := startsL_len lls
  have hyl := getD_short hln ((j : Int) + many).toNat
  have hgl := colsG_len b (KStt.codes (lls.getD ((j : Int) + many).toNat Str.empty))
  rw [KStt.codes_length] at hgl
  k_steps
  · (rename News _ _ _ _ => N9)
    unfold srcT
    refine LCt.CompSrcT.range (by rfl) (by k_asm) N9 (by assumption) (by exact small_one (by omega) (by omega) (by omega) (by omega)) (by exact rangeSize_nat _ _) (by rw [PySem.sizeLine_eq]; omega) ?_
    intro g9
    refine restT (J := fun i ys nx => nx = _ ∧ IntsAre ys (reachL (colsG b (KStt.codes (lls.getD ((j : Int) + many).toNat Str.empty))) c i)) ?turn ?fin _ 0 [] _ (Nat.zero_add _) ⟨rfl, .nil⟩
    case turn =>
      rintro i ys nx v' I oI C oC D m₂ h tk E' hi' ⟨rfl, i8⟩ ⟨t8, rfl⟩ hC' hx' F8 N8 off8 ne8
      rw [Int.zero_add] at hx'
      k_steps
      · exact CompEnd_pure F8 N8 off8 True.intro ⟨rfl, by rw [reachL_succ_yes (by assumption)]; exact IntsAre.append i8 (.cons _ _ .nil)⟩
      · exact CompEnd_pure F8 N8 off8 True.intro ⟨rfl, by rw [reachL_succ_no (by first | assumption | exact Int.not_le.mpr (by assumption))]; exact i8⟩
    case fin =>
      rintro ys nx ⟨rfl, i8⟩
      rw [show (((colsG b (KStt.codes (lls.getD ((j : Int) + many).toNat Str.empty))).length : Int) - 0).toNat = (colsG b (KStt.codes (lls.getD ((j : Int) + many).toNat Str.empty))).length from by omega] at i8
      have hrl := reachL_len (colsG b (KStt.codes (lls.getD ((j : Int) + many).toNat Str.empty))) c (colsG b (KStt.codes (lls.getD ((j : Int) + many).toNat Str.empty))).length
      have hrl2 : (reachL (colsG b (KStt.codes (lls.getD ((j : Int) + many).toNat Str.empty))) c (colsG b (KStt.codes (lls.getD ((j : Int) + many).toNat Str.empty))).length ++ [((colsG b (KStt.codes (lls.getD ((j : Int) + many).toNat Str.empty))).length : Int) - 1]).length = (reachL (colsG b (KStt.codes (lls.getD ((j : Int) + many).toNat Str.empty))) c (colsG b (KStt.codes (lls.getD ((j : Int) + many).toNat Str.empty))).length).length + 1 := List.length_append
      k_steps
      · (rename Fr _ _ _ _ => F9); (rename News _ _ _ _ => N9)
        refine hQ _ _ _ _ _ _ _ _ _ (fr_self _ F9 (by kst_all)) (cb_drop N9 (by kst_allIn)) ?_ (by omega) (by omega) ⟨_, by assumption⟩
        rw [hA (by omega) (by omega), if_pos (by assumption)]
      · (rename Fr _ _ _ _ => F9); (rename News _ _ _ _ => N9)
        refine hQ _ _ _ _ _ _ _ _ _ (fr_self _ F9 (by kst_all)) (cb_drop N9 (by kst_allIn)) ?_ (by omega) (by omega) ⟨_, by assumption⟩
        rw [hA (by omega) (by omega), if_neg (by rw [(by assumption : ie = false)]; exact Bool.false_ne_true)]
        rfl
  · (rename Fr _ _ _ _ => F9); (rename News _ _ _ _ => N9)
    exact hQ _ _ _ _ _ _ _ _ _ (fr_self _ F9 (by kst_all)) (cb_drop N9 (by kst_allIn)) (hB (by omega) (by omega)).symm (by omega) (by omega) ⟨_, by assumption⟩
  · (rename Fr _ _ _ _ => F9); (rename News _ _ _ _ => N9)
    exact hQ _ _ _ _ _ _ _ _ _ (fr_self _ F9 (by kst_all)) (cb_drop N9 (by kst_allIn)) (hC (by omega) (by omega)).symm (by omega) (by omega) ⟨_, by assumption⟩

theorem gtV_ok {codes : List Int} {b c P many : Int} {ie : Bool} : PyData.strOk (gtV codes b c ie P many).2 = true := by
  unfold gtV
  (repeat' split) <;> (dsimp only; decide +kernel)
theorem paK_le {codes : List Int} {b c : Int} {p e : Nat} (k : Nat) (h : p + k ≤ e) : p + paK codes b c p e k ≤ e := by
  induction k using paK.induct (codes := codes) (b := b) (col := c) (p := p) (e := e) with
  | case1 k hk ih => rw [paK_step hk]; exact ih (by omega)
  | case2 k hk => rw [paK_stop hk]; exact h
theorem placeOn_in {codes : List Int} {b c x : Int} {ie : Bool} (hx : 1 ≤ x ∧ x ≤ 1 + (codes.length : Int)) : 1 ≤ placeOn codes b c ie x ∧ placeOn codes b c ie x ≤ 1 + (codes.length : Int) := by
  have h1 := leN_len codes (x - 1).toNat (by omega)
  have h2 := lsN_le codes (x - 1).toNat
  have h3 := leN_ge codes (x - 1).toNat
  have h4 := paK_le (codes := codes) (b := b) (c := c) (p := lsN codes (x - 1).toNat) (e := leN codes (x - 1).toNat) 0 (by omega)
  unfold placeOn
  split <;> omega
theorem gtV_in {codes : List Int} {b c P many : Int} {ie : Bool} (hP : 1 ≤ P ∧ P ≤ 1 + (codes.length : Int)) : 1 ≤ (gtV codes b c ie P many).1 ∧ (gtV codes b c ie P many).1 ≤ 1 + (codes.length : Int) := by
  have hd := dw_in (k := many.toNat) hP
  unfold gtV
  split
  · split
    · exact hd
    · exact placeOn_in hd
  · have hu := up_in hP (show many ≤ 0 by omega)
    split
    · exact placeOn_in hu
    · exact hu
theorem goal_target_g {v g : Addr} {codes : List Int} {x b c many : Int} {ie : Bool} {tx ty tm tc : Tok} (hv : ViewAt news v codes) (hg : GoalAt news g (.int c tc) ie) (hx : 1 ≤ x ∧ x ≤ 1 + (codes.length : Int)) (hb : 1 ≤ b) (hm : -5 ≤ many ∧ many ≤ 5) :
    Cl w loose mean mg mb 182 news [.ref v, .int x tx, .int many tm, .ref g, .int b ty] 6 (PTS news (gtV codes b c ie x many).1 (gtV codes b c ie x many).2) := by
  intro dp un gd cn cs a ccd cl outer A₀ base h₀ L m s Q E B F X N T hk hd' hu hret
  refine cl_use (goal_target_ hv hg hx hb hm) B F X N T hk hd' hu ?_
  intro r nx h' tk' F' N' hp
  refine hret r nx h' tk' F' N' ?_
  unfold gtV
  rcases hp with ⟨h1, h2, h3⟩ | ⟨h1, h2, h3⟩ | ⟨h1, h2, h3⟩ | ⟨h1, h2, h3⟩
  · rw [if_pos h1, if_pos h2]; exact h3
  · rw [if_pos h1, if_neg (by rw [h2]; exact Bool.false_ne_true)]; exact h3
  · rw [if_neg (by omega), if_pos h2]; exact h3
  · rw [if_neg (by omega), if_neg h2]; exact h3
set_option hygiene false in
local macro_rules | `(tactic| walk_at "call ref") => `(tactic| (k_here; k_dflt (show wpAny _ _ (call (Value.ref 182) [Value.ref _, Value.int _ _, Value.int _ _, Value.ref _, Value.int _ _]) _ _ _; refine' cl_go (goal_target_g ?k0 ?j3 ?j0 ?j1 ?j2) ?k1 ?_; walk_at "np t"; (case j0 => omega); (case j1 => omega); (case j2 => omega); (case j3 => tb_rel); walk_at "np PT")))
set_option maxHeartbeats 2000000 in
theorem turn_5 {fa : Addr} {o6 o5 o4 o3 o2 o1 : Obj} (L : Addr) (ccd : Value) (h₀ : Heap) (s : Shared) (Q : Flow → Shared → Prop) (E : Value → Shared → Prop)
    (B : Below callerA h₀ [] h₀) (X : (Mine.hd.heap_1 w.params).In h₀) (T : Top Mine.view_ loose mean mg mb h₀) 
    {d gx lc v g : Addr} {vs us : List Value} {ds codes : List Int} {b : Int} {tb : Tok} {nn n2 : Nat} {R : List (Addr × Obj)} {ha hb hc : Int} {ka kb kc : Nat} (hi : IntsAre us codes) (hok : CodesOk codes) (hdi : IntsAre vs ds) (hdo : DeckOk ds) (hbb : 1 ≤ b ∧ b ≤ 8) (hd : @LT.lt Nat _ (L + 6) d) (hgx : @LT.lt Nat _ d gx) {u : Str → Option Value}
    (hv : ViewAt R v codes) (hg : (g, instObj 157 gx) ∈ R) (hlc : (lc, listOf us.toArray n2) ∈ R) (hR1 : ∀ p ∈ R, p.1 ≠ d) (hR2 : ∀ p ∈ R, p.1 ≠ gx) (hRc : ∀ p ∈ R, ∀ c : Nat, @LE.le Nat _ (L + 1) c → @LE.le Nat _ c (L + 6) → @Ne Nat p.1 c) {ll : Addr} {lus : List Value} {lls : List Str} (hll : StrsAre lus lls) (hln : 1 ≤ lls.length ∧ lls.length ≤ 27 ∧ ∀ x ∈ lls, x.length ≤ 26) (dc1 : o1.data = .cell (some (.ref ll))) (hlm : (ll, listOf lus.toArray 0) ∈ R) {ls : Addr} {sus : List Value} (hsi : IntsAre sus (startsL lls)) (hlsm : (ls, listOf sus.toArray sus.length) ∈ R) {f : Bool} {P : Int} {tp : Tok} (dc2 : o2.data = .cell (some (.int P tp))) (hP : 1 ≤ P ∧ P ≤ 1 + (codes.length : Int)) {j : Nat} {ta : Tok} {ht : Addr} {c : Int} {tc1 tc2 : Tok} {ie : Bool} (dc3 : o3.data = .cell (some (.ref ht))) (hht : (ht, tup2 (.int c tc1) (.bool ie)) ∈ R) {many : Int} {tm t t' : Tok} {dt : Addr} {V : Int} {W : Str} (hm : -2 ≤ many ∧ many ≤ 2) (hVW : (V, W) = gtV codes b c ie P many) (hdt : @LT.lt Nat _ gx dt) (hdt2 : @LT.lt Nat _ (L + 6) dt)
    (F : Fr h₀ L s.heap (kstB u [(Str.ofString "_law_deck", .ref d), (Str.ofString "_law_codes", .ref lc), (Str.ofString "_law_width", .int b tb), (Str.ofString "_law_view", .ref v), (Str.ofString "_law_goal", .ref g), (Str.ofString "_law_starts", .ref ls), (Str.ofString "_law_follows", .bool f), (Str.ofString "_law_at", .int (j : Int) ta), (Str.ofString "_law_many", .int many tm), (Str.ofString "_law_due", .ref dt)])) (N : News h₀ L s.heap ((dt, tup2 (.int V t) (.str W t')) :: ((gx, goalE ha hb hc ka kb kc 3 (.int c tc2) ie) :: (d, listOf vs.toArray nn) :: (L + 1 + 1 + 1 + 1 + 1 + 1, o6) :: (L + 1 + 1 + 1 + 1 + 1, o5) :: (L + 1 + 1 + 1 + 1, o4) :: (L + 1 + 1 + 1, o3) :: (L + 1 + 1, o2) :: (L + 1, o1) :: R)))
    (hQ : ∀ h' tk', Fr h₀ L h' (kstB u [(Str.ofString "_law_deck", .ref d), (Str.ofString "_law_codes", .ref lc), (Str.ofString "_law_width", .int b tb), (Str.ofString "_law_view", .ref v), (Str.ofString "_law_goal", .ref g), (Str.ofString "_law_starts", .ref ls), (Str.ofString "_law_follows", .bool f), (Str.ofString "_law_at", .int (j : Int) ta), (Str.ofString "_law_many", .int many tm), (Str.ofString "_law_due", .ref dt)]) → News h₀ L h' ((dt, tup2 (.int V t) (.str W t')) :: ((gx, goalE ha hb hc ka kb kc 3 (.int c tc2) ie) :: (d, listOf vs.toArray nn) :: (L + 1 + 1 + 1 + 1 + 1 + 1, o6) :: (L + 1 + 1 + 1 + 1 + 1, o5) :: (L + 1 + 1 + 1 + 1, o4) :: (L + 1 + 1 + 1, o3) :: (L + 1 + 1, o2) :: (L + 1, o1) :: R)) → Q .next { s with heap := h', toks := tk' }) : wpAny (model PySem.Challenge.rw_np0031_01.row.prog w) (callerA.deeper (envOfC (Str.ofString "law") lawScope L fa ccd)) (exec (loopStmt 5) (envOfC (Str.ofString "law") lawScope L fa ccd)) Q E s := by
  k_with_none
  w_top off
  revert X
  k_fill
  intro X
  conv => enter [3, 1]; whnf
  conv in (occs := *) lawScope => all_goals whnf
  have hW : W = (gtV codes b c ie P many).2 := congrArg Prod.snd hVW
  have hV : V = (gtV codes b c ie P many).1 := congrArg Prod.fst hVW
  k_steps
  (rename News _ _ _ _ => N9)
  refine ne_pairs_same N9 (by k_mem) (by k_mem) (hW ▸ gtV_ok) (by first | units_room | exact Nat.le_of_ble_eq_true rfl) hV.symm hW.symm ?_
  k_steps
  (rename Fr _ _ _ _ => F9); (rename News _ _ _ _ => N9)
  exact hQ _ _ F9 (cb_drop N9 (by kst_allIn))
set_option maxHeartbeats 2000000 in
theorem turn_6 {fa : Addr} {o6 o5 o4 o3 o2 o1 : Obj} (L : Addr) (ccd : Value) (h₀ : Heap) (s : Shared) (Q : Flow → Shared → Prop) (E : Value → Shared → Prop)
    (B : Below callerA h₀ [] h₀) (X : (Mine.hd.heap_1 w.params).In h₀) (T : Top Mine.view_ loose mean mg mb h₀) 
    {d gx lc v g : Addr} {vs us : List Value} {ds codes : List Int} {b : Int} {tb : Tok} {nn n2 : Nat} {R : List (Addr × Obj)} {ha hb hc : Int} {ka kb kc : Nat} (hi : IntsAre us codes) (hok : CodesOk codes) (hdi : IntsAre vs ds) (hdo : DeckOk ds) (hbb : 1 ≤ b ∧ b ≤ 8) (hd : @LT.lt Nat _ (L + 6) d) (hgx : @LT.lt Nat _ d gx) {u : Str → Option Value}
    (hv : ViewAt R v codes) (hg : (g, instObj 157 gx) ∈ R) (hlc : (lc, listOf us.toArray n2) ∈ R) (hR1 : ∀ p ∈ R, p.1 ≠ d) (hR2 : ∀ p ∈ R, p.1 ≠ gx) (hRc : ∀ p ∈ R, ∀ c : Nat, @LE.le Nat _ (L + 1) c → @LE.le Nat _ c (L + 6) → @Ne Nat p.1 c) {ll : Addr} {lus : List Value} {lls : List Str} (hll : StrsAre lus lls) (hln : 1 ≤ lls.length ∧ lls.length ≤ 27 ∧ ∀ x ∈ lls, x.length ≤ 26) (dc1 : o1.data = .cell (some (.ref ll))) (hlm : (ll, listOf lus.toArray 0) ∈ R) {ls : Addr} {sus : List Value} (hsi : IntsAre sus (startsL lls)) (hlsm : (ls, listOf sus.toArray sus.length) ∈ R) {f : Bool} {P : Int} {tp : Tok} (dc2 : o2.data = .cell (some (.int P tp))) (hP : 1 ≤ P ∧ P ≤ 1 + (codes.length : Int)) {j : Nat} {ta : Tok} {ht : Addr} {c : Int} {tc1 tc2 : Tok} {ie : Bool} (dc3 : o3.data = .cell (some (.ref ht))) (hht : (ht, tup2 (.int c tc1) (.bool ie)) ∈ R) {many : Int} {tm t t' : Tok} {dt : Addr} {V : Int} {W : Str} (hdt : @LT.lt Nat _ gx dt) (hdt2 : @LT.lt Nat _ (L + 6) dt)
    (F : Fr h₀ L s.heap (kstB u [(Str.ofString "_law_deck", .ref d), (Str.ofString "_law_codes", .ref lc), (Str.ofString "_law_width", .int b tb), (Str.ofString "_law_view", .ref v), (Str.ofString "_law_goal", .ref g), (Str.ofString "_law_starts", .ref ls), (Str.ofString "_law_follows", .bool f), (Str.ofString "_law_at", .int (j : Int) ta), (Str.ofString "_law_many", .int many tm), (Str.ofString "_law_due", .ref dt)])) (N : News h₀ L s.heap ((dt, tup2 (.int V t) (.str W t')) :: ((gx, goalE ha hb hc ka kb kc 3 (.int c tc2) ie) :: (d, listOf vs.toArray nn) :: (L + 1 + 1 + 1 + 1 + 1 + 1, o6) :: (L + 1 + 1 + 1 + 1 + 1, o5) :: (L + 1 + 1 + 1 + 1, o4) :: (L + 1 + 1 + 1, o3) :: (L + 1 + 1, o2) :: (L + 1, o1) :: R)))
    (hQ : ∀ tv o2' u' h' tk', o2'.data = .cell (some (.int V tv)) → Fr h₀ L h' (kstB u' [(Str.ofString "_law_deck", .ref d), (Str.ofString "_law_codes", .ref lc), (Str.ofString "_law_width", .int b tb), (Str.ofString "_law_view", .ref v), (Str.ofString "_law_goal", .ref g), (Str.ofString "_law_starts", .ref ls), (Str.ofString "_law_follows", .bool f)]) → News h₀ L h' ((gx, goalE ha hb hc ka kb kc 3 (.int c tc2) ie) :: (d, listOf vs.toArray nn) :: (L + 1 + 1 + 1 + 1 + 1 + 1, o6) :: (L + 1 + 1 + 1 + 1 + 1, o5) :: (L + 1 + 1 + 1 + 1, o4) :: (L + 1 + 1 + 1, o3) :: (L + 1 + 1, o2') :: (L + 1, o1) :: R) → Q .next { s with heap := h', toks := tk' }) : wpAny (model PySem.Challenge.rw_np0031_01.row.prog w) (callerA.deeper (envOfC (Str.ofString "law") lawScope L fa ccd)) (exec (loopStmt 6) (envOfC (Str.ofString "law") lawScope L fa ccd)) Q E s := by
  k_with_none
  w_top off
  revert X
  k_fill
  intro X
  conv => enter [3, 1]; whnf
  conv in (occs := *) lawScope => all_goals whnf
  k_steps
  (rename Fr _ _ _ _ => F9); (rename News _ _ _ _ => N9)
  exact hQ _ _ _ _ _ (by assumption) (fr_self _ F9 (by kst_all)) (cb_drop N9 (by kst_allIn))
set_option hygiene false in
local macro_rules | `(tactic| walk_at "call ref") => `(tactic| (k_here; k_dflt (show wpAny _ _ (call (Value.ref 182) [Value.ref _, Value.int _ _, Value.int _ _, Value.ref _, Value.int _ _]) _ _ _; refine' cl_go (goal_target_g ?k0 ?j3 ?j0 ?j1 ?j2) ?k1 ?_; walk_at "np t"; (case j0 => omega); (case j1 => omega); (case j2 => omega); (case j3 => tb_rel); walk_at "np PT")))
set_option maxHeartbeats 8000000 in
theorem end_none_ {v : Addr} {codes : List Int} (hv : ViewAt news v codes) :
    Cl w loose mean mg mb 84 news [.ref v, .none] 3 (PI news (1 + (codes.length : Int))) := by
  obtain ⟨dx, lc, hh1, hh2, k1, k2, k3, n, nn, vs, h1, h2, h3, h4, h5⟩ := hv.is
  k_with_none
  w_top off
  unfold Cl
  k_fill
  intro dp un gd cn cs a ccd cl outer A₀ base h₀ L m s Q E B F X N T hk hd hu hret
  refine wpAny_call ?_
  k_dflt cell_enter
  k_steps
  all_goals exact hret _ _ _ _ (by k_asm) (by k_asm) ⟨rfl, _, rfl⟩
set_option maxHeartbeats 8000000 in
theorem end_target_ {v : Addr} {codes : List Int} {x : Int} {tx : Tok} (hv : ViewAt news v codes) (hx : 0 ≤ x ∧ x ≤ 10) :
    Cl w loose mean mg mb 84 news [.ref v, .int x tx] 5 (PI news (ltV codes (clampV codes (1 + (codes.length : Int) - Int.fdiv (x * (codes.length : Int)) 10)) 1).1) := by
  obtain ⟨dx, lc, hh1, hh2, k1, k2, k3, n, nn, vs, h1, h2, h3, h4, h5⟩ := hv.is
  k_with_none
  w_top off
  unfold Cl
  k_fill
  intro dp un gd cn cs a ccd cl outer A₀ base h₀ L m s Q E B F X N T hk hd hu hret
  refine wpAny_call ?_
  k_dflt cell_enter
  k_steps
  all_goals exact hret _ _ _ _ (by k_asm) (cb_drop (by k_asm) (fun _ h9 => .tail _ h9)) ⟨rfl, _, rfl⟩
set_option hygiene false in
local macro_rules | `(tactic| walk_at "call ref") => `(tactic| (k_here; k_dflt (show wpAny _ _ (call (Value.ref 84) [Value.ref _, Value.none]) _ _ _; refine' cl_go (end_none_ ?k0) ?k1 ?_; walk_at "np t"; walk_at "np PI")))
set_option hygiene false in
local macro_rules | `(tactic| walk_at "call ref") => `(tactic| (k_here; k_dflt (show wpAny _ _ (call (Value.ref 84) [Value.ref _, Value.int _ _]) _ _ _; refine' cl_go (end_target_ ?k0 ?j0) ?k1 ?_; walk_at "np t"; (case j0 => omega); walk_at "np PI")))

theorem filt_gt {k X : Int} (h : X < k) : [k].filter (fun b => decide (X < b)) = [k] := by simp [h]
theorem filt_ngt {k X : Int} (h : ¬ X < k) : [k].filter (fun b => decide (X < b)) = [] := by simp [h]
def behL (lls : List Str) (X : Int) : List Int := (startsL lls).filter fun b => decide (X < b)
theorem behL_len (lls : List Str) (X : Int) (h : lls.length ≤ 27) : ((startsL lls).filter fun b => decide (X < b)).length ≤ 27 := Nat.le_trans (List.length_filter_le _ _) (by rw [startsL_len]; exact h)
set_option maxHeartbeats 2000000 in
theorem law_7 {fa : Addr} {o6 o5 o4 o3 o2 o1 : Obj} (L : Addr) (ccd : Value) (h₀ : Heap) (s : Shared) (Q : Flow → Shared → Prop) (E : Value → Shared → Prop)
    (B : Below callerA h₀ [] h₀) (X : (Mine.hd.heap_1 w.params).In h₀) (T : Top Mine.view_ loose mean mg mb h₀) 
    {d gx lc v g : Addr} {vs us : List Value} {ds codes : List Int} {b : Int} {tb : Tok} {nn n2 : Nat} {R : List (Addr × Obj)} {ha hb hc : Int} {ka kb kc : Nat} (hi : IntsAre us codes) (hok : CodesOk codes) (hdi : IntsAre vs ds) (hdo : DeckOk ds) (hbb : 1 ≤ b ∧ b ≤ 8) (hd : @LT.lt Nat _ (L + 6) d) (hgx : @LT.lt Nat _ d gx) {u : Str → Option Value}
    (hv : ViewAt R v codes) (hg : (g, instObj 157 gx) ∈ R) (hlc : (lc, listOf us.toArray n2) ∈ R) (hR1 : ∀ p ∈ R, p.1 ≠ d) (hR2 : ∀ p ∈ R, p.1 ≠ gx) (hRc : ∀ p ∈ R, ∀ c : Nat, @LE.le Nat _ (L + 1) c → @LE.le Nat _ c (L + 6) → @Ne Nat p.1 c) {ll : Addr} {lus : List Value} {lls : List Str} (hll : StrsAre lus lls) (hln : 1 ≤ lls.length ∧ lls.length ≤ 27 ∧ ∀ x ∈ lls, x.length ≤ 26) (dc1 : o1.data = .cell (some (.ref ll))) (hlm : (ll, listOf lus.toArray 0) ∈ R) {ls : Addr} {sus : List Value} (hsi : IntsAre sus (startsL lls)) (hlsm : (ls, listOf sus.toArray sus.length) ∈ R) {f : Bool} {P : Int} {tp : Tok} (dc2 : o2.data = .cell (some (.int P tp))) (hP : 1 ≤ P ∧ P ≤ 1 + (codes.length : Int)){col : Value} {ie : Bool}
    (F : Fr h₀ L s.heap (kstB u [(Str.ofString "_law_deck", .ref d), (Str.ofString "_law_codes", .ref lc), (Str.ofString "_law_width", .int b tb), (Str.ofString "_law_view", .ref v), (Str.ofString "_law_goal", .ref g), (Str.ofString "_law_starts", .ref ls), (Str.ofString "_law_follows", .bool f)])) (N : News h₀ L s.heap ((gx, goalE ha hb hc ka kb kc 3 col ie) :: (d, listOf vs.toArray nn) :: (L + 1 + 1 + 1 + 1 + 1 + 1, o6) :: (L + 1 + 1 + 1 + 1 + 1, o5) :: (L + 1 + 1 + 1 + 1, o4) :: (L + 1 + 1 + 1, o3) :: (L + 1 + 1, o2) :: (L + 1, o1) :: R)) {c5 : Option Value} (dc5 : o5.data = .cell c5)
    (hQ : ∀ num tn ten tt (vs' : List Value) ds' nn' (o5' : Obj) u' h' tk', o5'.data = .cell (some (.int ten tt)) → Fr h₀ L h' (kstB u' [(Str.ofString "_law_deck", .ref d), (Str.ofString "_law_codes", .ref lc), (Str.ofString "_law_width", .int b tb), (Str.ofString "_law_view", .ref v), (Str.ofString "_law_goal", .ref g), (Str.ofString "_law_starts", .ref ls), (Str.ofString "_law_follows", .bool f), (Str.ofString "_law_number", .int num tn)]) → News h₀ L h' ((gx, goalE ha hb hc ka kb kc 3 col ie) :: (d, listOf vs'.toArray nn') :: (L + 1 + 1 + 1 + 1 + 1 + 1, o6) :: (L + 1 + 1 + 1 + 1 + 1, o5') :: (L + 1 + 1 + 1 + 1, o4) :: (L + 1 + 1 + 1, o3) :: (L + 1 + 1, o2) :: (L + 1, o1) :: R) → 0 ≤ num → num < 7 → 0 ≤ ten → ten ≤ 10 → IntsAre vs' ds' → DeckOk ds' → Q .next { s with heap := h', toks := tk' }) : wpAny (model PySem.Challenge.rw_np0031_01.row.prog w) (callerA.deeper (envOfC (Str.ofString "law") lawScope L fa ccd)) (exec (lawStmt 7) (envOfC (Str.ofString "law") lawScope L fa ccd)) Q E s := by
  k_with_none
  w_top off
  revert X
  k_fill
  intro X
  conv => enter [3, 1]; whnf
  conv in (occs := *) lawScope => all_goals whnf
  k_steps
  (rename Fr _ _ _ _ => F9); (rename News _ _ _ _ => N9)
  exact hQ _ _ _ _ _ _ _ _ _ _ _ (by assumption) (fr_self _ F9 (by kst_all)) (cb_drop N9 (by kst_allIn)) (by omega) (by omega) (by omega) (by omega) (by assumption) (by assumption)
set_option maxHeartbeats 2000000 in
theorem law_8 {fa : Addr} {o6 o5 o4 o3 o2 o1 : Obj} (L : Addr) (ccd : Value) (h₀ : Heap) (s : Shared) (Q : Flow → Shared → Prop) (E : Value → Shared → Prop)
    (B : Below callerA h₀ [] h₀) (X : (Mine.hd.heap_1 w.params).In h₀) (T : Top Mine.view_ loose mean mg mb h₀) 
    {d gx lc v g : Addr} {vs us : List Value} {ds codes : List Int} {b : Int} {tb : Tok} {nn n2 : Nat} {R : List (Addr × Obj)} {ha hb hc : Int} {ka kb kc : Nat} (hi : IntsAre us codes) (hok : CodesOk codes) (hdi : IntsAre vs ds) (hdo : DeckOk ds) (hbb : 1 ≤ b ∧ b ≤ 8) (hd : @LT.lt Nat _ (L + 6) d) (hgx : @LT.lt Nat _ d gx) {u : Str → Option Value}
    (hv : ViewAt R v codes) (hg : (g, instObj 157 gx) ∈ R) (hlc : (lc, listOf us.toArray n2) ∈ R) (hR1 : ∀ p ∈ R, p.1 ≠ d) (hR2 : ∀ p ∈ R, p.1 ≠ gx) (hRc : ∀ p ∈ R, ∀ c : Nat, @LE.le Nat _ (L + 1) c → @LE.le Nat _ c (L + 6) → @Ne Nat p.1 c) {ll : Addr} {lus : List Value} {lls : List Str} (hll : StrsAre lus lls) (hln : 1 ≤ lls.length ∧ lls.length ≤ 27 ∧ ∀ x ∈ lls, x.length ≤ 26) (dc1 : o1.data = .cell (some (.ref ll))) (hlm : (ll, listOf lus.toArray 0) ∈ R) {ls : Addr} {sus : List Value} (hsi : IntsAre sus (startsL lls)) (hlsm : (ls, listOf sus.toArray sus.length) ∈ R) {f : Bool} {P : Int} {tp : Tok} (dc2 : o2.data = .cell (some (.int P tp))) (hP : 1 ≤ P ∧ P ≤ 1 + (codes.length : Int)) {num ten : Int} {tn tt : Tok} (hnum : 0 ≤ num ∧ num < 7) (hten : 0 ≤ ten ∧ ten ≤ 10) (dc5 : o5.data = .cell (some (.int ten tt))){col : Value} {ie : Bool}
    (F : Fr h₀ L s.heap (kstB u [(Str.ofString "_law_deck", .ref d), (Str.ofString "_law_codes", .ref lc), (Str.ofString "_law_width", .int b tb), (Str.ofString "_law_view", .ref v), (Str.ofString "_law_goal", .ref g), (Str.ofString "_law_starts", .ref ls), (Str.ofString "_law_follows", .bool f), (Str.ofString "_law_number", .int num tn)])) (N : News h₀ L s.heap ((gx, goalE ha hb hc ka kb kc 3 col ie) :: (d, listOf vs.toArray nn) :: (L + 1 + 1 + 1 + 1 + 1 + 1, o6) :: (L + 1 + 1 + 1 + 1 + 1, o5) :: (L + 1 + 1 + 1 + 1, o4) :: (L + 1 + 1 + 1, o3) :: (L + 1 + 1, o2) :: (L + 1, o1) :: R)) {c6 : Option Value} (dc6 : o6.data = .cell c6)
    (hQ : ∀ t (o6' : Obj) h' tk', o6'.data = .cell (some (.int (codes.length : Int) t)) → Fr h₀ L h' (kstB u [(Str.ofString "_law_deck", .ref d), (Str.ofString "_law_codes", .ref lc), (Str.ofString "_law_width", .int b tb), (Str.ofString "_law_view", .ref v), (Str.ofString "_law_goal", .ref g), (Str.ofString "_law_starts", .ref ls), (Str.ofString "_law_follows", .bool f), (Str.ofString "_law_number", .int num tn)]) → News h₀ L h' ((gx, goalE ha hb hc ka kb kc 3 col ie) :: (d, listOf vs.toArray nn) :: (L + 1 + 1 + 1 + 1 + 1 + 1, o6') :: (L + 1 + 1 + 1 + 1 + 1, o5) :: (L + 1 + 1 + 1 + 1, o4) :: (L + 1 + 1 + 1, o3) :: (L + 1 + 1, o2) :: (L + 1, o1) :: R) → Q .next { s with heap := h', toks := tk' }) : wpAny (model PySem.Challenge.rw_np0031_01.row.prog w) (callerA.deeper (envOfC (Str.ofString "law") lawScope L fa ccd)) (exec (lawStmt 8) (envOfC (Str.ofString "law") lawScope L fa ccd)) Q E s := by
  k_with_none
  w_top off
  revert X
  k_fill
  intro X
  conv => enter [3, 1]; whnf
  conv in (occs := *) lawScope => all_goals whnf
  have hcl := hok.2.2
  k_steps
  (rename Fr _ _ _ _ => F9); (rename News _ _ _ _ => N9)
  exact hQ _ _ _ _ (by assumption) F9 (cb_drop N9 (by kst_allIn))
set_option maxHeartbeats 2000000 in
theorem law_9 {fa : Addr} {o6 o5 o4 o3 o2 o1 : Obj} (L : Addr) (ccd : Value) (h₀ : Heap) (s : Shared) (Q : Flow → Shared → Prop) (E : Value → Shared → Prop)
    (B : Below callerA h₀ [] h₀) (X : (Mine.hd.heap_1 w.params).In h₀) (T : Top Mine.view_ loose mean mg mb h₀) 
    {d gx lc v g : Addr} {vs us : List Value} {ds codes : List Int} {b : Int} {tb : Tok} {nn n2 : Nat} {R : List (Addr × Obj)} {ha hb hc : Int} {ka kb kc : Nat} (hi : IntsAre us codes) (hok : CodesOk codes) (hdi : IntsAre vs ds) (hdo : DeckOk ds) (hbb : 1 ≤ b ∧ b ≤ 8) (hd : @LT.lt Nat _ (L + 6) d) (hgx : @LT.lt Nat _ d gx) {u : Str → Option Value}
    (hv : ViewAt R v codes) (hg : (g, instObj 157 gx) ∈ R) (hlc : (lc, listOf us.toArray n2) ∈ R) (hR1 : ∀ p ∈ R, p.1 ≠ d) (hR2 : ∀ p ∈ R, p.1 ≠ gx) (hRc : ∀ p ∈ R, ∀ c : Nat, @LE.le Nat _ (L + 1) c → @LE.le Nat _ c (L + 6) → @Ne Nat p.1 c) {ll : Addr} {lus : List Value} {lls : List Str} (hll : StrsAre lus lls) (hln : 1 ≤ lls.length ∧ lls.length ≤ 27 ∧ ∀ x ∈ lls, x.length ≤ 26) (dc1 : o1.data = .cell (some (.ref ll))) (hlm : (ll, listOf lus.toArray 0) ∈ R) {ls : Addr} {sus : List Value} (hsi : IntsAre sus (startsL lls)) (hlsm : (ls, listOf sus.toArray sus.length) ∈ R) {f : Bool} {P : Int} {tp : Tok} (dc2 : o2.data = .cell (some (.int P tp))) (hP : 1 ≤ P ∧ P ≤ 1 + (codes.length : Int)) {num ten : Int} {tn tt : Tok} (hnum : 0 ≤ num ∧ num < 7) (hten : 0 ≤ ten ∧ ten ≤ 10) (dc5 : o5.data = .cell (some (.int ten tt))) {tz : Tok} (dc6 : o6.data = .cell (some (.int (codes.length : Int) tz))){col : Value} {ie : Bool}
    (F : Fr h₀ L s.heap (kstB u [(Str.ofString "_law_deck", .ref d), (Str.ofString "_law_codes", .ref lc), (Str.ofString "_law_width", .int b tb), (Str.ofString "_law_view", .ref v), (Str.ofString "_law_goal", .ref g), (Str.ofString "_law_starts", .ref ls), (Str.ofString "_law_follows", .bool f), (Str.ofString "_law_number", .int num tn)])) (N : News h₀ L s.heap ((gx, goalE ha hb hc ka kb kc 3 col ie) :: (d, listOf vs.toArray nn) :: (L + 1 + 1 + 1 + 1 + 1 + 1, o6) :: (L + 1 + 1 + 1 + 1 + 1, o5) :: (L + 1 + 1 + 1 + 1, o4) :: (L + 1 + 1 + 1, o3) :: (L + 1 + 1, o2) :: (L + 1, o1) :: R))
    (hQ : ∀ lb bus u' h' tk', Fr h₀ L h' (kstB u' [(Str.ofString "_law_deck", .ref d), (Str.ofString "_law_codes", .ref lc), (Str.ofString "_law_width", .int b tb), (Str.ofString "_law_view", .ref v), (Str.ofString "_law_goal", .ref g), (Str.ofString "_law_starts", .ref ls), (Str.ofString "_law_follows", .bool f), (Str.ofString "_law_number", .int num tn), (Str.ofString "_law_behind", .ref lb)]) → News h₀ L h' ((lb, listOf (List.toArray bus) 0) :: ((gx, goalE ha hb hc ka kb kc 3 col ie) :: (d, listOf vs.toArray nn) :: (L + 1 + 1 + 1 + 1 + 1 + 1, o6) :: (L + 1 + 1 + 1 + 1 + 1, o5) :: (L + 1 + 1 + 1 + 1, o4) :: (L + 1 + 1 + 1, o3) :: (L + 1 + 1, o2) :: (L + 1, o1) :: R)) → IntsAre bus (behL lls (min ((codes.length : Int) + 1) (1 + Int.fdiv (10 + (codes.length : Int) * ten) 10)) ++ [(codes.length : Int) + 1]) → @LT.lt Nat _ gx lb → @LT.lt Nat _ (L + 6) lb → Q .next { s with heap := h', toks := tk' }) : wpAny (model PySem.Challenge.rw_np0031_01.row.prog w) (callerA.deeper (envOfC (Str.ofString "law") lawScope L fa ccd)) (exec (lawStmt 9) (envOfC (Str.ofString "law") lawScope L fa ccd)) Q E s := by
  k_with_none
  w_top off
  revert X
  k_fill
  intro X
  conv => enter [3, 1]; whnf
  conv in (occs := *) lawScope => all_goals whnf
  have hcl := hok.2.2
  have hsl := startsL_len lls
  k_steps
  (rename News _ _ _ _ => N9)
  unfold srcT
  refine LCt.CompSrcT.ledger (by rfl) (by k_asm) N9 (by k_mem) (by rw [List.size_toArray, hsi.length, startsL_len, PySem.sizeLine_eq]; omega) ?_
  intro g9
  refine restT (J := fun i ys nx => nx = _ ∧ IntsAre ys (((startsL lls).take i).filter fun b => decide (min ((codes.length : Int) + 1) (1 + Int.fdiv (10 + (codes.length : Int) * ten) 10) < b))) ?turn ?fin _ 0 [] _ (Nat.zero_add _) ⟨rfl, .nil⟩
  case turn =>
    rintro i ys nx v' I oI C oC D m₂ h tk E' hi' ⟨rfl, i8⟩ hPp hC' hx' F8 N8 off8 ne8
    obtain ⟨k9, t9, hk9, rfl⟩ := ints_item hsi hPp
    k_steps
    all_goals ((rename Fr _ _ _ _ => F7); (rename News _ _ _ _ => N7))
    · exact CompEnd_pure F7 N7 off8 (.inr ⟨_, by k_mem, rfl, _, rfl⟩) ⟨rfl, by rw [List.take_add_one, hk9, List.filter_append]; exact IntsAre.append i8 (by rw [show (some k9).toList = [k9] from rfl, filt_gt (by omega)]; exact .cons _ _ .nil)⟩
    · exact CompEnd_pure F7 N7 off8 (.inr ⟨_, by k_mem, rfl, _, rfl⟩) ⟨rfl, by rw [List.take_add_one, hk9, List.filter_append, show (some k9).toList = [k9] from rfl, filt_ngt (by omega), List.append_nil]; exact i8⟩
  case fin =>
    rintro ys nx ⟨rfl, i8⟩
    rw [List.size_toArray, hsi.length, List.take_length] at i8
    have hfl := behL_len lls (min ((codes.length : Int) + 1) (1 + Int.fdiv (10 + (codes.length : Int) * ten) 10)) hln.2.1
    have hf2 : (((startsL lls).filter fun b => decide (min ((codes.length : Int) + 1) (1 + Int.fdiv (10 + (codes.length : Int) * ten) 10) < b)) ++ [(codes.length : Int) + 1]).length = ((startsL lls).filter fun b => decide (min ((codes.length : Int) + 1) (1 + Int.fdiv (10 + (codes.length : Int) * ten) 10) < b)).length + 1 := List.length_append
    k_steps
    (rename Fr _ _ _ _ => F9); (rename News _ _ _ _ => N9)
    exact hQ _ _ _ _ _ (fr_self _ F9 (by kst_all)) (cb_drop N9 (by kst_allIn)) (by assumption) (by omega) (by omega)
set_option maxHeartbeats 2000000 in
theorem law_10 {fa : Addr} {o6 o5 o4 o3 o2 o1 : Obj} (L : Addr) (ccd : Value) (h₀ : Heap) (s : Shared) (Q : Flow → Shared → Prop) (E : Value → Shared → Prop)
    (B : Below callerA h₀ [] h₀) (X : (Mine.hd.heap_1 w.params).In h₀) (T : Top Mine.view_ loose mean mg mb h₀) 
    {d gx lc v g : Addr} {vs us : List Value} {ds codes : List Int} {b : Int} {tb : Tok} {nn n2 : Nat} {R : List (Addr × Obj)} {ha hb hc : Int} {ka kb kc : Nat} (hi : IntsAre us codes) (hok : CodesOk codes) (hdi : IntsAre vs ds) (hdo : DeckOk ds) (hbb : 1 ≤ b ∧ b ≤ 8) (hd : @LT.lt Nat _ (L + 6) d) (hgx : @LT.lt Nat _ d gx) {u : Str → Option Value}
    (hv : ViewAt R v codes) (hg : (g, instObj 157 gx) ∈ R) (hlc : (lc, listOf us.toArray n2) ∈ R) (hR1 : ∀ p ∈ R, p.1 ≠ d) (hR2 : ∀ p ∈ R, p.1 ≠ gx) (hRc : ∀ p ∈ R, ∀ c : Nat, @LE.le Nat _ (L + 1) c → @LE.le Nat _ c (L + 6) → @Ne Nat p.1 c) {ll : Addr} {lus : List Value} {lls : List Str} (hll : StrsAre lus lls) (hln : 1 ≤ lls.length ∧ lls.length ≤ 27 ∧ ∀ x ∈ lls, x.length ≤ 26) (dc1 : o1.data = .cell (some (.ref ll))) (hlm : (ll, listOf lus.toArray 0) ∈ R) {ls : Addr} {sus : List Value} (hsi : IntsAre sus (startsL lls)) (hlsm : (ls, listOf sus.toArray sus.length) ∈ R) {f : Bool} {P : Int} {tp : Tok} (dc2 : o2.data = .cell (some (.int P tp))) (hP : 1 ≤ P ∧ P ≤ 1 + (codes.length : Int)) {num ten : Int} {tn tt : Tok} (hnum : 0 ≤ num ∧ num < 7) (hten : 0 ≤ ten ∧ ten ≤ 10) (dc5 : o5.data = .cell (some (.int ten tt))) {tz : Tok} (dc6 : o6.data = .cell (some (.int (codes.length : Int) tz))) {lb : Addr} {bus : List Value} (hbus : IntsAre bus (behL lls (min ((codes.length : Int) + 1) (1 + Int.fdiv (10 + (codes.length : Int) * ten) 10)) ++ [(codes.length : Int) + 1])) (hlb : @LT.lt Nat _ gx lb) (hlb2 : @LT.lt Nat _ (L + 6) lb){col : Value} {ie : Bool}
    (F : Fr h₀ L s.heap (kstB u [(Str.ofString "_law_deck", .ref d), (Str.ofString "_law_codes", .ref lc), (Str.ofString "_law_width", .int b tb), (Str.ofString "_law_view", .ref v), (Str.ofString "_law_goal", .ref g), (Str.ofString "_law_starts", .ref ls), (Str.ofString "_law_follows", .bool f), (Str.ofString "_law_number", .int num tn), (Str.ofString "_law_behind", .ref lb)])) (N : News h₀ L s.heap ((lb, listOf (List.toArray bus) 0) :: ((gx, goalE ha hb hc ka kb kc 3 col ie) :: (d, listOf vs.toArray nn) :: (L + 1 + 1 + 1 + 1 + 1 + 1, o6) :: (L + 1 + 1 + 1 + 1 + 1, o5) :: (L + 1 + 1 + 1 + 1, o4) :: (L + 1 + 1 + 1, o3) :: (L + 1 + 1, o2) :: (L + 1, o1) :: R)))
    (hM : (ltV codes (clampV codes (1 + Int.fdiv (10 + (codes.length : Int) * ten) 10)) 1).1 = (behL lls (min ((codes.length : Int) + 1) (1 + Int.fdiv (10 + (codes.length : Int) * ten) 10)) ++ [(codes.length : Int) + 1]).getD 0 0)
    (hQ : ∀ u' h' tk', Fr h₀ L h' (kstB u' [(Str.ofString "_law_deck", .ref d), (Str.ofString "_law_codes", .ref lc), (Str.ofString "_law_width", .int b tb), (Str.ofString "_law_view", .ref v), (Str.ofString "_law_goal", .ref g), (Str.ofString "_law_starts", .ref ls), (Str.ofString "_law_follows", .bool f), (Str.ofString "_law_number", .int num tn)]) → News h₀ L h' ((gx, goalE ha hb hc ka kb kc 3 col ie) :: (d, listOf vs.toArray nn) :: (L + 1 + 1 + 1 + 1 + 1 + 1, o6) :: (L + 1 + 1 + 1 + 1 + 1, o5) :: (L + 1 + 1 + 1 + 1, o4) :: (L + 1 + 1 + 1, o3) :: (L + 1 + 1, o2) :: (L + 1, o1) :: R) → Q .next { s with heap := h', toks := tk' }) : wpAny (model PySem.Challenge.rw_np0031_01.row.prog w) (callerA.deeper (envOfC (Str.ofString "law") lawScope L fa ccd)) (exec (lawStmt 10) (envOfC (Str.ofString "law") lawScope L fa ccd)) Q E s := by
  k_with_none
  w_top off
  revert X
  k_fill
  intro X
  conv => enter [3, 1]; whnf
  conv in (occs := *) lawScope => all_goals whnf
  have hbl : (behL lls (min ((codes.length : Int) + 1) (1 + Int.fdiv (10 + (codes.length : Int) * ten) 10)) ++ [(codes.length : Int) + 1]).length = (behL lls (min ((codes.length : Int) + 1) (1 + Int.fdiv (10 + (codes.length : Int) * ten) 10))).length + 1 := List.length_append
  k_steps
  · exact absurd hM (by assumption)
  · exfalso; omega
  · (rename Fr _ _ _ _ => F9); (rename News _ _ _ _ => N9)
    exact hQ _ _ _ (fr_self _ F9 (by kst_all)) (cb_drop N9 (by kst_allIn))
set_option maxHeartbeats 2000000 in
theorem law_11 {fa : Addr} {o6 o5 o4 o3 o2 o1 : Obj} (L : Addr) (ccd : Value) (h₀ : Heap) (s : Shared) (Q : Flow → Shared → Prop) (E : Value → Shared → Prop)
    (B : Below callerA h₀ [] h₀) (X : (Mine.hd.heap_1 w.params).In h₀) (T : Top Mine.view_ loose mean mg mb h₀) 
    {d gx lc v g : Addr} {vs us : List Value} {ds codes : List Int} {b : Int} {tb : Tok} {nn n2 : Nat} {R : List (Addr × Obj)} {ha hb hc : Int} {ka kb kc : Nat} (hi : IntsAre us codes) (hok : CodesOk codes) (hdi : IntsAre vs ds) (hdo : DeckOk ds) (hbb : 1 ≤ b ∧ b ≤ 8) (hd : @LT.lt Nat _ (L + 6) d) (hgx : @LT.lt Nat _ d gx) {u : Str → Option Value}
    (hv : ViewAt R v codes) (hg : (g, instObj 157 gx) ∈ R) (hlc : (lc, listOf us.toArray n2) ∈ R) (hR1 : ∀ p ∈ R, p.1 ≠ d) (hR2 : ∀ p ∈ R, p.1 ≠ gx) (hRc : ∀ p ∈ R, ∀ c : Nat, @LE.le Nat _ (L + 1) c → @LE.le Nat _ c (L + 6) → @Ne Nat p.1 c) {ll : Addr} {lus : List Value} {lls : List Str} (hll : StrsAre lus lls) (hln : 1 ≤ lls.length ∧ lls.length ≤ 27 ∧ ∀ x ∈ lls, x.length ≤ 26) (dc1 : o1.data = .cell (some (.ref ll))) (hlm : (ll, listOf lus.toArray 0) ∈ R) {ls : Addr} {sus : List Value} (hsi : IntsAre sus (startsL lls)) (hlsm : (ls, listOf sus.toArray sus.length) ∈ R) {f : Bool} {P : Int} {tp : Tok} (dc2 : o2.data = .cell (some (.int P tp))) (hP : 1 ≤ P ∧ P ≤ 1 + (codes.length : Int)) {num ten : Int} {tn tt : Tok} (hnum : 0 ≤ num ∧ num < 7) (hten : 0 ≤ ten ∧ ten ≤ 10) (dc5 : o5.data = .cell (some (.int ten tt))) {tz : Tok} (dc6 : o6.data = .cell (some (.int (codes.length : Int) tz))){col : Value} {ie : Bool}
    (F : Fr h₀ L s.heap (kstB u [(Str.ofString "_law_deck", .ref d), (Str.ofString "_law_codes", .ref lc), (Str.ofString "_law_width", .int b tb), (Str.ofString "_law_view", .ref v), (Str.ofString "_law_goal", .ref g), (Str.ofString "_law_starts", .ref ls), (Str.ofString "_law_follows", .bool f), (Str.ofString "_law_number", .int num tn)])) (N : News h₀ L s.heap ((gx, goalE ha hb hc ka kb kc 3 col ie) :: (d, listOf vs.toArray nn) :: (L + 1 + 1 + 1 + 1 + 1 + 1, o6) :: (L + 1 + 1 + 1 + 1 + 1, o5) :: (L + 1 + 1 + 1 + 1, o4) :: (L + 1 + 1 + 1, o3) :: (L + 1 + 1, o2) :: (L + 1, o1) :: R))
    (hQ : ∀ lb bus u' h' tk', Fr h₀ L h' (kstB u' [(Str.ofString "_law_deck", .ref d), (Str.ofString "_law_codes", .ref lc), (Str.ofString "_law_width", .int b tb), (Str.ofString "_law_view", .ref v), (Str.ofString "_law_goal", .ref g), (Str.ofString "_law_starts", .ref ls), (Str.ofString "_law_follows", .bool f), (Str.ofString "_law_number", .int num tn), (Str.ofString "_law_behind", .ref lb)]) → News h₀ L h' ((lb, listOf (List.toArray bus) 0) :: ((gx, goalE ha hb hc ka kb kc 3 col ie) :: (d, listOf vs.toArray nn) :: (L + 1 + 1 + 1 + 1 + 1 + 1, o6) :: (L + 1 + 1 + 1 + 1 + 1, o5) :: (L + 1 + 1 + 1 + 1, o4) :: (L + 1 + 1 + 1, o3) :: (L + 1 + 1, o2) :: (L + 1, o1) :: R)) → IntsAre bus (behL lls (max 1 ((codes.length : Int) + 1 - Int.fdiv ((codes.length : Int) * ten) 10)) ++ [(codes.length : Int) + 1]) → @LT.lt Nat _ gx lb → @LT.lt Nat _ (L + 6) lb → Q .next { s with heap := h', toks := tk' }) : wpAny (model PySem.Challenge.rw_np0031_01.row.prog w) (callerA.deeper (envOfC (Str.ofString "law") lawScope L fa ccd)) (exec (lawStmt 11) (envOfC (Str.ofString "law") lawScope L fa ccd)) Q E s := by
  k_with_none
  w_top off
  revert X
  k_fill
  intro X
  conv => enter [3, 1]; whnf
  conv in (occs := *) lawScope => all_goals whnf
  have hcl := hok.2.2
  have hsl := startsL_len lls
  k_steps
  (rename News _ _ _ _ => N9)
  unfold srcT
  refine LCt.CompSrcT.ledger (by rfl) (by k_asm) N9 (by k_mem) (by rw [List.size_toArray, hsi.length, startsL_len, PySem.sizeLine_eq]; omega) ?_
  intro g9
  refine restT (J := fun i ys nx => nx = _ ∧ IntsAre ys (((startsL lls).take i).filter fun b => decide ((max 1 ((codes.length : Int) + 1 - Int.fdiv ((codes.length : Int) * ten) 10)) < b))) ?turn ?fin _ 0 [] _ (Nat.zero_add _) ⟨rfl, .nil⟩
  case turn =>
    rintro i ys nx v' I oI C oC D m₂ h tk E' hi' ⟨rfl, i8⟩ hPp hC' hx' F8 N8 off8 ne8
    obtain ⟨k9, t9, hk9, rfl⟩ := ints_item hsi hPp
    k_steps
    all_goals ((rename Fr _ _ _ _ => F7); (rename News _ _ _ _ => N7))
    · exact CompEnd_pure F7 N7 off8 (.inr ⟨_, by k_mem, rfl, _, rfl⟩) ⟨rfl, by rw [List.take_add_one, hk9, List.filter_append]; exact IntsAre.append i8 (by rw [show (some k9).toList = [k9] from rfl, filt_gt (by omega)]; exact .cons _ _ .nil)⟩
    · exact CompEnd_pure F7 N7 off8 (.inr ⟨_, by k_mem, rfl, _, rfl⟩) ⟨rfl, by rw [List.take_add_one, hk9, List.filter_append, show (some k9).toList = [k9] from rfl, filt_ngt (by omega), List.append_nil]; exact i8⟩
  case fin =>
    rintro ys nx ⟨rfl, i8⟩
    rw [List.size_toArray, hsi.length, List.take_length] at i8
    have hfl := behL_len lls (max 1 ((codes.length : Int) + 1 - Int.fdiv ((codes.length : Int) * ten) 10)) hln.2.1
    have hf2 : (((startsL lls).filter fun b => decide ((max 1 ((codes.length : Int) + 1 - Int.fdiv ((codes.length : Int) * ten) 10)) < b)) ++ [(codes.length : Int) + 1]).length = ((startsL lls).filter fun b => decide ((max 1 ((codes.length : Int) + 1 - Int.fdiv ((codes.length : Int) * ten) 10)) < b)).length + 1 := List.length_append
    k_steps
    (rename Fr _ _ _ _ => F9); (rename News _ _ _ _ => N9)
    exact hQ _ _ _ _ _ (fr_self _ F9 (by kst_all)) (cb_drop N9 (by kst_allIn)) (by assumption) (by omega) (by omega)
set_option maxHeartbeats 2000000 in
theorem law_12 {fa : Addr} {o6 o5 o4 o3 o2 o1 : Obj} (L : Addr) (ccd : Value) (h₀ : Heap) (s : Shared) (Q : Flow → Shared → Prop) (E : Value → Shared → Prop)
    (B : Below callerA h₀ [] h₀) (X : (Mine.hd.heap_1 w.params).In h₀) (T : Top Mine.view_ loose mean mg mb h₀) 
    {d gx lc v g : Addr} {vs us : List Value} {ds codes : List Int} {b : Int} {tb : Tok} {nn n2 : Nat} {R : List (Addr × Obj)} {ha hb hc : Int} {ka kb kc : Nat} (hi : IntsAre us codes) (hok : CodesOk codes) (hdi : IntsAre vs ds) (hdo : DeckOk ds) (hbb : 1 ≤ b ∧ b ≤ 8) (hd : @LT.lt Nat _ (L + 6) d) (hgx : @LT.lt Nat _ d gx) {u : Str → Option Value}
    (hv : ViewAt R v codes) (hg : (g, instObj 157 gx) ∈ R) (hlc : (lc, listOf us.toArray n2) ∈ R) (hR1 : ∀ p ∈ R, p.1 ≠ d) (hR2 : ∀ p ∈ R, p.1 ≠ gx) (hRc : ∀ p ∈ R, ∀ c : Nat, @LE.le Nat _ (L + 1) c → @LE.le Nat _ c (L + 6) → @Ne Nat p.1 c) {ll : Addr} {lus : List Value} {lls : List Str} (hll : StrsAre lus lls) (hln : 1 ≤ lls.length ∧ lls.length ≤ 27 ∧ ∀ x ∈ lls, x.length ≤ 26) (dc1 : o1.data = .cell (some (.ref ll))) (hlm : (ll, listOf lus.toArray 0) ∈ R) {ls : Addr} {sus : List Value} (hsi : IntsAre sus (startsL lls)) (hlsm : (ls, listOf sus.toArray sus.length) ∈ R) {f : Bool} {P : Int} {tp : Tok} (dc2 : o2.data = .cell (some (.int P tp))) (hP : 1 ≤ P ∧ P ≤ 1 + (codes.length : Int)) {num ten : Int} {tn tt : Tok} (hnum : 0 ≤ num ∧ num < 7) (hten : 0 ≤ ten ∧ ten ≤ 10) (dc5 : o5.data = .cell (some (.int ten tt))) {tz : Tok} (dc6 : o6.data = .cell (some (.int (codes.length : Int) tz))) {lb : Addr} {bus : List Value} (hbus : IntsAre bus (behL lls (max 1 ((codes.length : Int) + 1 - Int.fdiv ((codes.length : Int) * ten) 10)) ++ [(codes.length : Int) + 1])) (hlb : @LT.lt Nat _ gx lb) (hlb2 : @LT.lt Nat _ (L + 6) lb){col : Value} {ie : Bool}
    (F : Fr h₀ L s.heap (kstB u [(Str.ofString "_law_deck", .ref d), (Str.ofString "_law_codes", .ref lc), (Str.ofString "_law_width", .int b tb), (Str.ofString "_law_view", .ref v), (Str.ofString "_law_goal", .ref g), (Str.ofString "_law_starts", .ref ls), (Str.ofString "_law_follows", .bool f), (Str.ofString "_law_number", .int num tn), (Str.ofString "_law_behind", .ref lb)])) (N : News h₀ L s.heap ((lb, listOf (List.toArray bus) 0) :: ((gx, goalE ha hb hc ka kb kc 3 col ie) :: (d, listOf vs.toArray nn) :: (L + 1 + 1 + 1 + 1 + 1 + 1, o6) :: (L + 1 + 1 + 1 + 1 + 1, o5) :: (L + 1 + 1 + 1 + 1, o4) :: (L + 1 + 1 + 1, o3) :: (L + 1 + 1, o2) :: (L + 1, o1) :: R)))
    (hM : (ltV codes (clampV codes (1 + (codes.length : Int) - Int.fdiv (ten * (codes.length : Int)) 10)) 1).1 = (behL lls (max 1 ((codes.length : Int) + 1 - Int.fdiv ((codes.length : Int) * ten) 10)) ++ [(codes.length : Int) + 1]).getD 0 0)
    (hQ : ∀ u' h' tk', Fr h₀ L h' (kstB u' [(Str.ofString "_law_deck", .ref d), (Str.ofString "_law_codes", .ref lc), (Str.ofString "_law_width", .int b tb), (Str.ofString "_law_view", .ref v), (Str.ofString "_law_goal", .ref g), (Str.ofString "_law_starts", .ref ls), (Str.ofString "_law_follows", .bool f), (Str.ofString "_law_number", .int num tn)]) → News h₀ L h' ((gx, goalE ha hb hc ka kb kc 3 col ie) :: (d, listOf vs.toArray nn) :: (L + 1 + 1 + 1 + 1 + 1 + 1, o6) :: (L + 1 + 1 + 1 + 1 + 1, o5) :: (L + 1 + 1 + 1 + 1, o4) :: (L + 1 + 1 + 1, o3) :: (L + 1 + 1, o2) :: (L + 1, o1) :: R) → Q .next { s with heap := h', toks := tk' }) : wpAny (model PySem.Challenge.rw_np0031_01.row.prog w) (callerA.deeper (envOfC (Str.ofString "law") lawScope L fa ccd)) (exec (lawStmt 12) (envOfC (Str.ofString "law") lawScope L fa ccd)) Q E s := by
  k_with_none
  w_top off
  revert X
  k_fill
  intro X
  conv => enter [3, 1]; whnf
  conv in (occs := *) lawScope => all_goals whnf
  have hbl : (behL lls (max 1 ((codes.length : Int) + 1 - Int.fdiv ((codes.length : Int) * ten) 10)) ++ [(codes.length : Int) + 1]).length = (behL lls (max 1 ((codes.length : Int) + 1 - Int.fdiv ((codes.length : Int) * ten) 10))).length + 1 := List.length_append
  k_steps
  · exact absurd hM (by assumption)
  · (rename Fr _ _ _ _ => F9); (rename News _ _ _ _ => N9)
    exact hQ _ _ _ (fr_self _ F9 (by kst_all)) (cb_drop N9 (by kst_allIn))
set_option maxHeartbeats 2000000 in
theorem law_13 {fa : Addr} {o6 o5 o4 o3 o2 o1 : Obj} (L : Addr) (ccd : Value) (h₀ : Heap) (s : Shared) (Q : Flow → Shared → Prop) (E : Value → Shared → Prop)
    (B : Below callerA h₀ [] h₀) (X : (Mine.hd.heap_1 w.params).In h₀) (T : Top Mine.view_ loose mean mg mb h₀) 
    {d gx lc v g : Addr} {vs us : List Value} {ds codes : List Int} {b : Int} {tb : Tok} {nn n2 : Nat} {R : List (Addr × Obj)} {ha hb hc : Int} {ka kb kc : Nat} (hi : IntsAre us codes) (hok : CodesOk codes) (hdi : IntsAre vs ds) (hdo : DeckOk ds) (hbb : 1 ≤ b ∧ b ≤ 8) (hd : @LT.lt Nat _ (L + 6) d) (hgx : @LT.lt Nat _ d gx) {u : Str → Option Value}
    (hv : ViewAt R v codes) (hg : (g, instObj 157 gx) ∈ R) (hlc : (lc, listOf us.toArray n2) ∈ R) (hR1 : ∀ p ∈ R, p.1 ≠ d) (hR2 : ∀ p ∈ R, p.1 ≠ gx) (hRc : ∀ p ∈ R, ∀ c : Nat, @LE.le Nat _ (L + 1) c → @LE.le Nat _ c (L + 6) → @Ne Nat p.1 c) {ll : Addr} {lus : List Value} {lls : List Str} (hll : StrsAre lus lls) (hln : 1 ≤ lls.length ∧ lls.length ≤ 27 ∧ ∀ x ∈ lls, x.length ≤ 26) (dc1 : o1.data = .cell (some (.ref ll))) (hlm : (ll, listOf lus.toArray 0) ∈ R) {ls : Addr} {sus : List Value} (hsi : IntsAre sus (startsL lls)) (hlsm : (ls, listOf sus.toArray sus.length) ∈ R) {f : Bool} {P : Int} {tp : Tok} (dc2 : o2.data = .cell (some (.int P tp))) (hP : 1 ≤ P ∧ P ≤ 1 + (codes.length : Int)) {num ten : Int} {tn tt : Tok} (hnum : 0 ≤ num ∧ num < 7) (hten : 0 ≤ ten ∧ ten ≤ 10) (dc5 : o5.data = .cell (some (.int ten tt))) {tz : Tok} (dc6 : o6.data = .cell (some (.int (codes.length : Int) tz))){col : Value} {ie : Bool}
    (F : Fr h₀ L s.heap (kstB u [(Str.ofString "_law_deck", .ref d), (Str.ofString "_law_codes", .ref lc), (Str.ofString "_law_width", .int b tb), (Str.ofString "_law_view", .ref v), (Str.ofString "_law_goal", .ref g), (Str.ofString "_law_starts", .ref ls), (Str.ofString "_law_follows", .bool f), (Str.ofString "_law_number", .int num tn)])) (N : News h₀ L s.heap ((gx, goalE ha hb hc ka kb kc 3 col ie) :: (d, listOf vs.toArray nn) :: (L + 1 + 1 + 1 + 1 + 1 + 1, o6) :: (L + 1 + 1 + 1 + 1 + 1, o5) :: (L + 1 + 1 + 1 + 1, o4) :: (L + 1 + 1 + 1, o3) :: (L + 1 + 1, o2) :: (L + 1, o1) :: R))
    (hQ : ∀ V t u' h' tk', Fr h₀ L h' (kstB u' [(Str.ofString "_law_deck", .ref d), (Str.ofString "_law_codes", .ref lc), (Str.ofString "_law_width", .int b tb), (Str.ofString "_law_view", .ref v), (Str.ofString "_law_goal", .ref g), (Str.ofString "_law_starts", .ref ls), (Str.ofString "_law_follows", .bool f), (Str.ofString "_law_number", .int num tn), (Str.ofString "_law_due", .int V t)]) → News h₀ L h' ((gx, goalE ha hb hc ka kb kc 3 col ie) :: (d, listOf vs.toArray nn) :: (L + 1 + 1 + 1 + 1 + 1 + 1, o6) :: (L + 1 + 1 + 1 + 1 + 1, o5) :: (L + 1 + 1 + 1 + 1, o4) :: (L + 1 + 1 + 1, o3) :: (L + 1 + 1, o2) :: (L + 1, o1) :: R) → V = (if max 0 (num - 1) < (lls.length : Int) then (startsL lls).getD (max 0 (num - 1)).toNat 0 else (codes.length : Int) + 1) → Q .next { s with heap := h', toks := tk' }) : wpAny (model PySem.Challenge.rw_np0031_01.row.prog w) (callerA.deeper (envOfC (Str.ofString "law") lawScope L fa ccd)) (exec (lawStmt 13) (envOfC (Str.ofString "law") lawScope L fa ccd)) Q E s := by
  k_with_none
  w_top off
  revert X
  k_fill
  intro X
  conv => enter [3, 1]; whnf
  conv in (occs := *) lawScope => all_goals whnf
  have hsl := startsL_len lls
  k_steps
  · (rename Fr _ _ _ _ => F9); (rename News _ _ _ _ => N9)
    refine hQ _ _ _ _ _ (fr_self _ F9 (by kst_all)) (cb_drop N9 (by kst_allIn)) ?_
    rw [if_pos (show max 0 (num - 1) < (lls.length : Int) by omega)]
    refine congrArg (fun z : Int => (startsL lls).getD z.toNat 0) ?_
    (repeat' split) <;> omega
  · (rename Fr _ _ _ _ => F9); (rename News _ _ _ _ => N9)
    refine hQ _ _ _ _ _ (fr_self _ F9 (by kst_all)) (cb_drop N9 (by kst_allIn)) ?_
    rw [if_neg (show ¬ max 0 (num - 1) < (lls.length : Int) by omega)]
set_option maxHeartbeats 2000000 in
theorem law_14 {fa : Addr} {o6 o5 o4 o3 o2 o1 : Obj} (L : Addr) (ccd : Value) (h₀ : Heap) (s : Shared) (Q : Flow → Shared → Prop) (E : Value → Shared → Prop)
    (B : Below callerA h₀ [] h₀) (X : (Mine.hd.heap_1 w.params).In h₀) (T : Top Mine.view_ loose mean mg mb h₀) 
    {d gx lc v g : Addr} {vs us : List Value} {ds codes : List Int} {b : Int} {tb : Tok} {nn n2 : Nat} {R : List (Addr × Obj)} {ha hb hc : Int} {ka kb kc : Nat} (hi : IntsAre us codes) (hok : CodesOk codes) (hdi : IntsAre vs ds) (hdo : DeckOk ds) (hbb : 1 ≤ b ∧ b ≤ 8) (hd : @LT.lt Nat _ (L + 6) d) (hgx : @LT.lt Nat _ d gx) {u : Str → Option Value}
    (hv : ViewAt R v codes) (hg : (g, instObj 157 gx) ∈ R) (hlc : (lc, listOf us.toArray n2) ∈ R) (hR1 : ∀ p ∈ R, p.1 ≠ d) (hR2 : ∀ p ∈ R, p.1 ≠ gx) (hRc : ∀ p ∈ R, ∀ c : Nat, @LE.le Nat _ (L + 1) c → @LE.le Nat _ c (L + 6) → @Ne Nat p.1 c) {ll : Addr} {lus : List Value} {lls : List Str} (hll : StrsAre lus lls) (hln : 1 ≤ lls.length ∧ lls.length ≤ 27 ∧ ∀ x ∈ lls, x.length ≤ 26) (dc1 : o1.data = .cell (some (.ref ll))) (hlm : (ll, listOf lus.toArray 0) ∈ R) {ls : Addr} {sus : List Value} (hsi : IntsAre sus (startsL lls)) (hlsm : (ls, listOf sus.toArray sus.length) ∈ R) {f : Bool} {P : Int} {tp : Tok} (dc2 : o2.data = .cell (some (.int P tp))) (hP : 1 ≤ P ∧ P ≤ 1 + (codes.length : Int)) {num ten : Int} {tn tt : Tok} (hnum : 0 ≤ num ∧ num < 7) (hten : 0 ≤ ten ∧ ten ≤ 10) (dc5 : o5.data = .cell (some (.int ten tt))) {tz : Tok} (dc6 : o6.data = .cell (some (.int (codes.length : Int) tz))){col : Value} {ie : Bool} {V : Int} {t : Tok} (hV : V = (if max 0 (num - 1) < (lls.length : Int) then (startsL lls).getD (max 0 (num - 1)).toNat 0 else (codes.length : Int) + 1)) (hM : (ltV codes 1 (max 0 (num - 1))).1 = (if max 0 (num - 1) < (lls.length : Int) then (startsL lls).getD (max 0 (num - 1)).toNat 0 else (codes.length : Int) + 1))
    (F : Fr h₀ L s.heap (kstB u [(Str.ofString "_law_deck", .ref d), (Str.ofString "_law_codes", .ref lc), (Str.ofString "_law_width", .int b tb), (Str.ofString "_law_view", .ref v), (Str.ofString "_law_goal", .ref g), (Str.ofString "_law_starts", .ref ls), (Str.ofString "_law_follows", .bool f), (Str.ofString "_law_number", .int num tn), (Str.ofString "_law_due", .int V t)])) (N : News h₀ L s.heap ((gx, goalE ha hb hc ka kb kc 3 col ie) :: (d, listOf vs.toArray nn) :: (L + 1 + 1 + 1 + 1 + 1 + 1, o6) :: (L + 1 + 1 + 1 + 1 + 1, o5) :: (L + 1 + 1 + 1 + 1, o4) :: (L + 1 + 1 + 1, o3) :: (L + 1 + 1, o2) :: (L + 1, o1) :: R))
    (hQ : ∀ u' h' tk', Fr h₀ L h' (kstB u' [(Str.ofString "_law_deck", .ref d), (Str.ofString "_law_codes", .ref lc), (Str.ofString "_law_width", .int b tb), (Str.ofString "_law_view", .ref v), (Str.ofString "_law_goal", .ref g), (Str.ofString "_law_starts", .ref ls), (Str.ofString "_law_follows", .bool f), (Str.ofString "_law_number", .int num tn)]) → News h₀ L h' ((gx, goalE ha hb hc ka kb kc 3 col ie) :: (d, listOf vs.toArray nn) :: (L + 1 + 1 + 1 + 1 + 1 + 1, o6) :: (L + 1 + 1 + 1 + 1 + 1, o5) :: (L + 1 + 1 + 1 + 1, o4) :: (L + 1 + 1 + 1, o3) :: (L + 1 + 1, o2) :: (L + 1, o1) :: R) → Q .next { s with heap := h', toks := tk' }) : wpAny (model PySem.Challenge.rw_np0031_01.row.prog w) (callerA.deeper (envOfC (Str.ofString "law") lawScope L fa ccd)) (exec (lawStmt 14) (envOfC (Str.ofString "law") lawScope L fa ccd)) Q E s := by
  k_with_none
  w_top off
  revert X
  k_fill
  intro X
  conv => enter [3, 1]; whnf
  conv in (occs := *) lawScope => all_goals whnf
  rw [← hV] at hM
  clear hV
  k_steps
  · exact absurd hM (by assumption)
  · (rename Fr _ _ _ _ => F9); (rename News _ _ _ _ => N9)
    exact hQ _ _ _ (fr_self _ F9 (by kst_all)) (cb_drop N9 (by kst_allIn))

def codesH : List Int := [97, 98, 99, 100, 10, 97, 10, 97, 98, 99, 100, 101]
set_option maxHeartbeats 2000000 in
theorem law_15 {fa : Addr} {o6 o5 o4 o3 o2 o1 : Obj} (L : Addr) (ccd : Value) (h₀ : Heap) (s : Shared) (Q : Flow → Shared → Prop) (E : Value → Shared → Prop)
    (B : Below callerA h₀ [] h₀) (X : (Mine.hd.heap_1 w.params).In h₀) (T : Top Mine.view_ loose mean mg mb h₀)  {g gx : Addr} {R : List (Addr × Obj)} {ha hb hc : Int} {ka kb kc : Nat} {u : Str → Option Value} (hg : (g, instObj 157 gx) ∈ R) (hR2 : ∀ p ∈ R, p.1 ≠ gx){col : Value} {ie : Bool}
    (F : Fr h₀ L s.heap (kstB u [(Str.ofString "_law_goal", .ref g)])) (N : News h₀ L s.heap ((gx, goalE ha hb hc ka kb kc 3 col ie) :: R))
    (hQ : ∀ hn R' u' h' tk', Fr h₀ L h' (kstB u' [(Str.ofString "_law_goal", .ref g), (Str.ofString "_law_hand", .ref hn)]) → News h₀ L h' ((gx, goalE ha hb hc ka kb kc 3 col ie) :: R') → ViewAt R' hn codesH → (g, instObj 157 gx) ∈ R' → (∀ p ∈ R', p.1 ≠ gx) → Q .next { s with heap := h', toks := tk' }) : wpAny (model PySem.Challenge.rw_np0031_01.row.prog w) (callerA.deeper (envOfC (Str.ofString "law") lawScope L fa ccd)) (exec (lawStmt 15) (envOfC (Str.ofString "law") lawScope L fa ccd)) Q E s := by
  k_with_none
  w_top off
  revert X
  k_fill
  intro X
  conv => enter [3, 1]; whnf
  conv in (occs := *) lawScope => all_goals whnf
  k_steps
  (rename News _ _ _ _ => N9)
  refine srcS.intro (by rfl) (by k_asm) N9 (by decide +kernel) ?_
  intro g9
  refine restU (J := fun i ys nx => nx = _ ∧ IntsAre ys ((KStt.codes (Str.ofString "abcd\na\nabcde")).take i)) ?turn ?fin _ 0 [] _ (Nat.zero_add _) ⟨rfl, .nil⟩
  case turn =>
    rintro i ys nx v I oI C oC D m₂ h tk E' hi' ⟨rfl, i8⟩ ⟨c8, t8, hc8, rfl⟩ hC' hx' F8 N8 off8 ne8
    k_steps
    exact CompEnd_pure F8 N8 off8 True.intro ⟨rfl, by rw [List.take_add_one, KStt.code_at hc8]; exact IntsAre.append i8 (.cons _ _ .nil)⟩
  case fin =>
    rintro ys nx ⟨rfl, i8⟩
    have i7 : IntsAre ys codesH := by
      have e : (KStt.codes (Str.ofString "abcd\na\nabcde")).take (Str.ofString "abcd\na\nabcde").cps.size = codesH := by decide +kernel
      rw [e] at i8; exact i8
    have hcl : codesH.length = 12 := rfl
    k_steps
    (rename Fr _ _ _ _ => F9); (rename News _ _ _ _ => N9)
    refine hQ ?v ((?v, instObj 221 ?dx) :: (?dx, dictOf [⟨?e1, .str (Str.ofString "codes") ?e2, .ref ?lv⟩, ⟨?e3, .str (Str.ofString "place") ?e4, .int 1 ?e5⟩] ?nd) :: (?lv, listOf ys.toArray ?nv) :: R) _ _ _ (fr_self _ F9 (by kst_all)) (cb_drop N9 (by kst_allIn)) ?_ ?_ ?_
    · exact ⟨⟨_, _, _, _, _, _, _, _, _, _, by k_mem, by k_mem, by k_mem, i7, by omega⟩⟩
    · k_mem
    · first | k_all | fail "k_all"
set_option maxHeartbeats 2000000 in
theorem law_16 {fa : Addr} {o6 o5 o4 o3 o2 o1 : Obj} (L : Addr) (ccd : Value) (h₀ : Heap) (s : Shared) (Q : Flow → Shared → Prop) (E : Value → Shared → Prop)
    (B : Below callerA h₀ [] h₀) (X : (Mine.hd.heap_1 w.params).In h₀) (T : Top Mine.view_ loose mean mg mb h₀)  {g gx : Addr} {R : List (Addr × Obj)} {ha hb hc : Int} {ka kb kc : Nat} {u : Str → Option Value} (hg : (g, instObj 157 gx) ∈ R) (hR2 : ∀ p ∈ R, p.1 ≠ gx) {hn : Addr} (hv : ViewAt R hn codesH){col : Value} {ie : Bool}
    (F : Fr h₀ L s.heap (kstB u [(Str.ofString "_law_goal", .ref g), (Str.ofString "_law_hand", .ref hn)])) (N : News h₀ L s.heap ((gx, goalE ha hb hc ka kb kc 3 col ie) :: R))
    (hQ : ∀ t h' tk', Fr h₀ L h' (kstB u [(Str.ofString "_law_goal", .ref g), (Str.ofString "_law_hand", .ref hn)]) → News h₀ L h' ((gx, goalE ha hb hc ka kb kc 3 (.int (colF codesH 8 (lsN codesH (4 - 1 : Int).toNat) ((4 - 1 : Int).toNat - lsN codesH (4 - 1 : Int).toNat)) t) (beginIe codesH false 4)) :: R) → Q .next { s with heap := h', toks := tk' }) : wpAny (model PySem.Challenge.rw_np0031_01.row.prog w) (callerA.deeper (envOfC (Str.ofString "law") lawScope L fa ccd)) (exec (lawStmt 16) (envOfC (Str.ofString "law") lawScope L fa ccd)) Q E s := by
  k_with_none
  w_top off
  revert X
  k_fill
  intro X
  conv => enter [3, 1]; whnf
  conv in (occs := *) lawScope => all_goals whnf
  have hcl : codesH.length = 12 := rfl
  k_steps
  (rename Fr _ _ _ _ => F9); (rename News _ _ _ _ => N9)
  exact hQ _ _ _ F9 N9
set_option maxHeartbeats 2000000 in
theorem law_17 {fa : Addr} {o6 o5 o4 o3 o2 o1 : Obj} (L : Addr) (ccd : Value) (h₀ : Heap) (s : Shared) (Q : Flow → Shared → Prop) (E : Value → Shared → Prop)
    (B : Below callerA h₀ [] h₀) (X : (Mine.hd.heap_1 w.params).In h₀) (T : Top Mine.view_ loose mean mg mb h₀)  {g gx : Addr} {R : List (Addr × Obj)} {ha hb hc : Int} {ka kb kc : Nat} {u : Str → Option Value} (hg : (g, instObj 157 gx) ∈ R) (hR2 : ∀ p ∈ R, p.1 ≠ gx) {hn : Addr} (hv : ViewAt R hn codesH) {c : Int} {tc : Tok} {ie : Bool} (e1 : gtV codesH 8 c ie 4 1 = (7, Str.ofString "")) (e2 : gtV codesH 8 c ie 7 1 = (11, Str.ofString ""))
    (F : Fr h₀ L s.heap (kstB u [(Str.ofString "_law_goal", .ref g), (Str.ofString "_law_hand", .ref hn)])) (N : News h₀ L s.heap ((gx, goalE ha hb hc ka kb kc 3 (.int c tc) ie) :: R))
    (hQ : ∀ st t1 t2 a1 a2 a3 a4 u' h' tk', Fr h₀ L h' (kstB u' [(Str.ofString "_law_goal", .ref g), (Str.ofString "_law_hand", .ref hn), (Str.ofString "_law_steps", .ref st)]) → News h₀ L h' ((st, listOf [.ref t1, .ref t2].toArray 0) :: (t2, tup2 (.int 11 a3) (.str (Str.ofString "") a4)) :: (t1, tup2 (.int 7 a1) (.str (Str.ofString "") a2)) :: ((gx, goalE ha hb hc ka kb kc 3 (.int c tc) ie) :: R)) → @LT.lt Nat _ gx t1 → @LT.lt Nat _ t1 t2 → @LT.lt Nat _ t2 st → (∀ p ∈ R, @LT.lt Nat _ p.1 t1) → Q .next { s with heap := h', toks := tk' }) : wpAny (model PySem.Challenge.rw_np0031_01.row.prog w) (callerA.deeper (envOfC (Str.ofString "law") lawScope L fa ccd)) (exec (lawStmt 17) (envOfC (Str.ofString "law") lawScope L fa ccd)) Q E s := by
  k_with_none
  w_top off
  revert X
  k_fill
  intro X
  conv => enter [3, 1]; whnf
  conv in (occs := *) lawScope => all_goals whnf
  have hcl : codesH.length = 12 := rfl
  k_steps
  (rename Fr _ _ _ _ => F9); (rename News _ _ _ _ => N9)
  rw [e1, e2] at N9
  exact hQ _ _ _ _ _ _ _ _ _ _ (fr_self _ F9 (by kst_all)) N9 (by omega) (by omega) (by omega) (kst_ltOf (And.right (by assumption)))
set_option maxHeartbeats 2000000 in
theorem law_18 {fa : Addr} {o6 o5 o4 o3 o2 o1 : Obj} (L : Addr) (ccd : Value) (h₀ : Heap) (s : Shared) (Q : Flow → Shared → Prop) (E : Value → Shared → Prop)
    (B : Below callerA h₀ [] h₀) (X : (Mine.hd.heap_1 w.params).In h₀) (T : Top Mine.view_ loose mean mg mb h₀)  {g gx : Addr} {R : List (Addr × Obj)} {ha hb hc : Int} {ka kb kc : Nat} {u : Str → Option Value} (hg : (g, instObj 157 gx) ∈ R) (hR2 : ∀ p ∈ R, p.1 ≠ gx) {hn : Addr} (hv : ViewAt R hn codesH) {st t1 t2 : Addr} {a1 a2 a3 a4 : Tok} (h1 : @LT.lt Nat _ gx t1) (h2 : @LT.lt Nat _ t1 t2) (h3 : @LT.lt Nat _ t2 st){col : Value} {ie : Bool}
    (F : Fr h₀ L s.heap (kstB u [(Str.ofString "_law_goal", .ref g), (Str.ofString "_law_hand", .ref hn), (Str.ofString "_law_steps", .ref st)])) (N : News h₀ L s.heap ((st, listOf [.ref t1, .ref t2].toArray 0) :: (t2, tup2 (.int 11 a3) (.str (Str.ofString "") a4)) :: (t1, tup2 (.int 7 a1) (.str (Str.ofString "") a2)) :: ((gx, goalE ha hb hc ka kb kc 3 col ie) :: R)))
    (hQ : ∀ h' tk', Fr h₀ L h' (kstB u [(Str.ofString "_law_goal", .ref g), (Str.ofString "_law_hand", .ref hn), (Str.ofString "_law_steps", .ref st)]) → News h₀ L h' ((st, listOf [.ref t1, .ref t2].toArray 0) :: (t2, tup2 (.int 11 a3) (.str (Str.ofString "") a4)) :: (t1, tup2 (.int 7 a1) (.str (Str.ofString "") a2)) :: ((gx, goalE ha hb hc ka kb kc 3 .none false) :: R)) → Q .next { s with heap := h', toks := tk' }) : wpAny (model PySem.Challenge.rw_np0031_01.row.prog w) (callerA.deeper (envOfC (Str.ofString "law") lawScope L fa ccd)) (exec (lawStmt 18) (envOfC (Str.ofString "law") lawScope L fa ccd)) Q E s := by
  k_with_none
  w_top off
  revert X
  k_fill
  intro X
  conv => enter [3, 1]; whnf
  conv in (occs := *) lawScope => all_goals whnf
  k_steps
  (rename Fr _ _ _ _ => F9); (rename News _ _ _ _ => N9)
  exact hQ _ _ F9 (cb_drop N9 (by kst_allIn))
set_option maxHeartbeats 2000000 in
theorem law_19 {fa : Addr} {o6 o5 o4 o3 o2 o1 : Obj} (L : Addr) (ccd : Value) (h₀ : Heap) (s : Shared) (Q : Flow → Shared → Prop) (E : Value → Shared → Prop)
    (B : Below callerA h₀ [] h₀) (X : (Mine.hd.heap_1 w.params).In h₀) (T : Top Mine.view_ loose mean mg mb h₀)  {g gx : Addr} {R : List (Addr × Obj)} {ha hb hc : Int} {ka kb kc : Nat} {u : Str → Option Value} (hg : (g, instObj 157 gx) ∈ R) (hR2 : ∀ p ∈ R, p.1 ≠ gx) {hn : Addr} (hv : ViewAt R hn codesH) {st t1 t2 : Addr} {a1 a2 a3 a4 : Tok} (h1 : @LT.lt Nat _ gx t1) (h2 : @LT.lt Nat _ t1 t2) (h3 : @LT.lt Nat _ t2 st){col : Value} {ie : Bool}
    (F : Fr h₀ L s.heap (kstB u [(Str.ofString "_law_goal", .ref g), (Str.ofString "_law_hand", .ref hn), (Str.ofString "_law_steps", .ref st)])) (N : News h₀ L s.heap ((st, listOf [.ref t1, .ref t2].toArray 0) :: (t2, tup2 (.int 11 a3) (.str (Str.ofString "") a4)) :: (t1, tup2 (.int 7 a1) (.str (Str.ofString "") a2)) :: ((gx, goalE ha hb hc ka kb kc 3 col ie) :: R)))
    (hQ : ∀ t h' tk', Fr h₀ L h' (kstB u [(Str.ofString "_law_goal", .ref g), (Str.ofString "_law_hand", .ref hn), (Str.ofString "_law_steps", .ref st)]) → News h₀ L h' ((st, listOf [.ref t1, .ref t2].toArray 0) :: (t2, tup2 (.int 11 a3) (.str (Str.ofString "") a4)) :: (t1, tup2 (.int 7 a1) (.str (Str.ofString "") a2)) :: ((gx, goalE ha hb hc ka kb kc 3 (.int 2 t) false) :: R)) → Q .next { s with heap := h', toks := tk' }) : wpAny (model PySem.Challenge.rw_np0031_01.row.prog w) (callerA.deeper (envOfC (Str.ofString "law") lawScope L fa ccd)) (exec (lawStmt 19) (envOfC (Str.ofString "law") lawScope L fa ccd)) Q E s := by
  k_with_none
  w_top off
  revert X
  k_fill
  intro X
  conv => enter [3, 1]; whnf
  conv in (occs := *) lawScope => all_goals whnf
  k_steps
  (rename Fr _ _ _ _ => F9); (rename News _ _ _ _ => N9)
  exact hQ _ _ _ F9 (cb_drop N9 (by kst_allIn))
set_option maxHeartbeats 2000000 in
theorem law_20 {fa : Addr} {o6 o5 o4 o3 o2 o1 : Obj} (L : Addr) (ccd : Value) (h₀ : Heap) (s : Shared) (Q : Flow → Shared → Prop) (E : Value → Shared → Prop)
    (B : Below callerA h₀ [] h₀) (X : (Mine.hd.heap_1 w.params).In h₀) (T : Top Mine.view_ loose mean mg mb h₀)  {g gx : Addr} {R : List (Addr × Obj)} {ha hb hc : Int} {ka kb kc : Nat} {u : Str → Option Value} (hg : (g, instObj 157 gx) ∈ R) (hR2 : ∀ p ∈ R, p.1 ≠ gx) {hn : Addr} (hv : ViewAt R hn codesH) {st t1 t2 : Addr} {a1 a2 a3 a4 : Tok} (h1 : @LT.lt Nat _ gx t1) (h2 : @LT.lt Nat _ t1 t2) (h3 : @LT.lt Nat _ t2 st) {tc : Tok} (e3 : gtV codesH 8 2 false 7 (-1) = (3, Str.ofString ""))
    (F : Fr h₀ L s.heap (kstB u [(Str.ofString "_law_goal", .ref g), (Str.ofString "_law_hand", .ref hn), (Str.ofString "_law_steps", .ref st)])) (N : News h₀ L s.heap ((st, listOf [.ref t1, .ref t2].toArray 0) :: (t2, tup2 (.int 11 a3) (.str (Str.ofString "") a4)) :: (t1, tup2 (.int 7 a1) (.str (Str.ofString "") a2)) :: ((gx, goalE ha hb hc ka kb kc 3 (.int 2 tc) false) :: R)))
    (hQ : ∀ h' tk', Fr h₀ L h' (kstB u [(Str.ofString "_law_goal", .ref g), (Str.ofString "_law_hand", .ref hn), (Str.ofString "_law_steps", .ref st)]) → Q (.ret (.bool true)) { s with heap := h', toks := tk' }) : wpAny (model PySem.Challenge.rw_np0031_01.row.prog w) (callerA.deeper (envOfC (Str.ofString "law") lawScope L fa ccd)) (exec (lawStmt 20) (envOfC (Str.ofString "law") lawScope L fa ccd)) Q E s := by
  k_with_none
  w_top off
  revert X
  k_fill
  intro X
  conv => enter [3, 1]; whnf
  conv in (occs := *) lawScope => all_goals whnf
  have hcl : codesH.length = 12 := rfl
  k_steps
  (rename Fr _ _ _ _ => F9)
  rw [e3]
  refine (congrArg (fun B => Q (.ret (.bool B)) _) ?_).mpr (hQ _ _ F9)

  decide +kernel

def HeldOk (o3 : Obj) (R : List (Addr × Obj)) (col : Value) (ie : Bool) : Prop :=
  o3.data = .cell (some .none) ∨ ∃ (ht : Addr) (c : Int) (tc1 tc2 : Tok), o3.data = .cell (some (.ref ht)) ∧ (ht, tup2 (.int c tc1) (.bool ie)) ∈ R ∧ col = .int c tc2
structure LineAt (codes : List Int) (lls : List Str) (b P : Int) (j : Nat) (x : Str) : Prop where
  cnt : (cntLe (startsL lls) P : Int) - 1 = (j : Int)
  item : lls[j]? = some x
  start : (startsL lls).getD ((j : Int)).toNat 0 = 1 + (lsN codes (P - 1).toNat : Int)
  stop : lsN codes (P - 1).toNat + x.length = leN codes (P - 1).toNat
  col : (colsG b (KStt.codes x)).getD (P - (1 + (lsN codes (P - 1).toNat : Int))).toNat 0 = colF codes b (lsN codes (P - 1).toNat) ((P - 1).toNat - lsN codes (P - 1).toNat)
  hA : ∀ (many c : Int) (ie : Bool), -2 ≤ many ∧ many ≤ 2 → 0 ≤ (j : Int) + many → (j : Int) + many < (lls.length : Int) → gtV codes b c ie P many = ((startsL lls).getD ((j : Int) + many).toNat 0 + (if ie = true then ((lls.getD ((j : Int) + many).toNat Str.empty).length : Int) else reach0 (colsG b (KStt.codes (lls.getD ((j : Int) + many).toNat Str.empty))) c), Str.ofString "")
  hB : ∀ (many c : Int) (ie : Bool), -2 ≤ many ∧ many ≤ 2 → ¬ (0 ≤ (j : Int) + many ∧ (j : Int) + many < (lls.length : Int)) → 0 < many → gtV codes b c ie P many = ((codes.length : Int) + 1, Str.ofString "end-of-buffer")
  hC : ∀ (many c : Int) (ie : Bool), -2 ≤ many ∧ many ≤ 2 → ¬ (0 ≤ (j : Int) + many ∧ (j : Int) + many < (lls.length : Int)) → ¬ 0 < many → gtV codes b c ie P many = (1, Str.ofString "beginning-of-buffer")
theorem loopBody_eq : loopBody = [loopStmt 0, loopStmt 1, loopStmt 2, loopStmt 3, loopStmt 4, loopStmt 5, loopStmt 6] := by rfl
set_option maxHeartbeats 2000000 in
theorem turn_b {fa : Addr} {o6 o5 o4 o3 o2 o1 : Obj} (L : Addr) (ccd : Value) (h₀ : Heap) (s : Shared) (Q : Flow → Shared → Prop) (E : Value → Shared → Prop)
    (B : Below callerA h₀ [] h₀) (X : (Mine.hd.heap_1 w.params).In h₀) (T : Top Mine.view_ loose mean mg mb h₀) 
    {d gx lc v g : Addr} {vs us : List Value} {ds codes : List Int} {b : Int} {tb : Tok} {nn n2 : Nat} {R : List (Addr × Obj)} {ha hb hc : Int} {ka kb kc : Nat} (hi : IntsAre us codes) (hok : CodesOk codes) (hdi : IntsAre vs ds) (hdo : DeckOk ds) (hbb : 1 ≤ b ∧ b ≤ 8) (hd : @LT.lt Nat _ (L + 6) d) (hgx : @LT.lt Nat _ d gx) {u : Str → Option Value}
    (hv : ViewAt R v codes) (hg : (g, instObj 157 gx) ∈ R) (hlc : (lc, listOf us.toArray n2) ∈ R) (hR1 : ∀ p ∈ R, p.1 ≠ d) (hR2 : ∀ p ∈ R, p.1 ≠ gx) (hRc : ∀ p ∈ R, ∀ c : Nat, @LE.le Nat _ (L + 1) c → @LE.le Nat _ c (L + 6) → @Ne Nat p.1 c) {ll : Addr} {lus : List Value} {lls : List Str} (hll : StrsAre lus lls) (hln : 1 ≤ lls.length ∧ lls.length ≤ 27 ∧ ∀ x ∈ lls, x.length ≤ 26) (dc1 : o1.data = .cell (some (.ref ll))) (hlm : (ll, listOf lus.toArray 0) ∈ R) {ls : Addr} {sus : List Value} (hsi : IntsAre sus (startsL lls)) (hlsm : (ls, listOf sus.toArray sus.length) ∈ R) {f : Bool} {P : Int} {tp : Tok} (dc2 : o2.data = .cell (some (.int P tp))) (hP : 1 ≤ P ∧ P ≤ 1 + (codes.length : Int)) {j : Nat} {ta : Tok} {ht : Addr} {c : Int} {tc1 tc2 : Tok} {ie : Bool} (dc3 : o3.data = .cell (some (.ref ht))) (hht : (ht, tup2 (.int c tc1) (.bool ie)) ∈ R) {x : Str} (M : LineAt codes lls b P j x) (h4 : ∃ c, o4.data = .cell c)
    (F : Fr h₀ L s.heap (kstB u [(Str.ofString "_law_deck", .ref d), (Str.ofString "_law_codes", .ref lc), (Str.ofString "_law_width", .int b tb), (Str.ofString "_law_view", .ref v), (Str.ofString "_law_goal", .ref g), (Str.ofString "_law_starts", .ref ls), (Str.ofString "_law_follows", .bool f), (Str.ofString "_law_at", .int (j : Int) ta)])) (N : News h₀ L s.heap ((gx, goalE ha hb hc ka kb kc 3 (.int c tc2) ie) :: (d, listOf vs.toArray nn) :: (L + 1 + 1 + 1 + 1 + 1 + 1, o6) :: (L + 1 + 1 + 1 + 1 + 1, o5) :: (L + 1 + 1 + 1 + 1, o4) :: (L + 1 + 1 + 1, o3) :: (L + 1 + 1, o2) :: (L + 1, o1) :: R))
    (hQ : ∀ (fl : Flow) (P' : Int) (tp' : Tok) (vs' : List Value) (ds' : List Int) (nn' : Nat) (o4' o2' : Obj) u' h' tk', (fl = .next ∨ fl = .cont) → Fr h₀ L h' (kstB u' [(Str.ofString "_law_deck", .ref d), (Str.ofString "_law_codes", .ref lc), (Str.ofString "_law_width", .int b tb), (Str.ofString "_law_view", .ref v), (Str.ofString "_law_goal", .ref g), (Str.ofString "_law_starts", .ref ls), (Str.ofString "_law_follows", .bool f)]) →
      News h₀ L h' ((gx, goalE ha hb hc ka kb kc 3 (.int c tc2) ie) :: (d, listOf vs'.toArray nn') :: (L + 1 + 1 + 1 + 1 + 1 + 1, o6) :: (L + 1 + 1 + 1 + 1 + 1, o5) :: (L + 1 + 1 + 1 + 1, o4') :: (L + 1 + 1 + 1, o3) :: (L + 1 + 1, o2') :: (L + 1, o1) :: R) → o2'.data = .cell (some (.int P' tp')) → 1 ≤ P' ∧ P' ≤ 1 + (codes.length : Int) → IntsAre vs' ds' → DeckOk ds' → (∃ c, o4'.data = .cell c) → Q fl { s with heap := h', toks := tk' }) : wpAny (model PySem.Challenge.rw_np0031_01.row.prog w) (callerA.deeper (envOfC (Str.ofString "law") lawScope L fa ccd)) (execs [loopStmt 3, loopStmt 4, loopStmt 5, loopStmt 6] (envOfC (Str.ofString "law") lawScope L fa ccd)) Q E s := by
  obtain ⟨c4, dc4⟩ := h4
  have hjl : j < lls.length := (List.getElem?_eq_some_iff.mp M.item).1
  refine wpAny_execs_cons (turn_3 L ccd h₀ _ _ _ B X T hi hok hdi hdo hbb hd hgx hv hg hlc hR1 hR2 hRc hll hln dc1 hlm hsi hlsm dc2 hP dc3 hht F N ?_)
  intro many tm vs' ds' nn' u' h' tk' F N hm1 hm2 hdi hdo
  refine wpAny_execs_cons (turn_4 L ccd h₀ _ _ _ B X T hi hok hdi hdo hbb hd hgx hv hg hlc hR1 hR2 hRc hll hln dc1 hlm hsi hlsm dc2 hP dc3 hht ⟨hm1, hm2⟩ hjl dc4 F N (M.hA many c ie ⟨hm1, hm2⟩) (M.hB many c ie ⟨hm1, hm2⟩) (M.hC many c ie ⟨hm1, hm2⟩) ?_)
  intro dt V W t t' o4' u' h' tk' F N hVW hdt hdt2 h4
  refine wpAny_execs_cons (turn_5 L ccd h₀ _ _ _ B X T hi hok hdi hdo hbb hd hgx hv hg hlc hR1 hR2 hRc hll hln dc1 hlm hsi hlsm dc2 hP dc3 hht ⟨hm1, hm2⟩ hVW hdt hdt2 F N ?_)
  intro h' tk' F N
  refine wpAny_execs_cons (turn_6 L ccd h₀ _ _ _ B X T hi hok hdi hdo hbb hd hgx hv hg hlc hR1 hR2 hRc hll hln dc1 hlm hsi hlsm dc2 hP dc3 hht hdt hdt2 F N ?_)
  intro tv o2' u' h' tk' dc2' F N
  refine wpAny_execs_nil ?_
  refine hQ .next V tv _ _ _ _ _ _ _ _ (.inl rfl) F N dc2' ?_ hdi hdo h4
  have := gtV_in (codes := codes) (b := b) (c := c) (many := many) (ie := ie) hP
  rw [← hVW] at this
  exact this
set_option maxHeartbeats 2000000 in
theorem turn_ {fa : Addr} {o6 o5 o4 o3 o2 o1 : Obj} (L : Addr) (ccd : Value) (h₀ : Heap) (s : Shared) (Q : Flow → Shared → Prop) (E : Value → Shared → Prop)
    (B : Below callerA h₀ [] h₀) (X : (Mine.hd.heap_1 w.params).In h₀) (T : Top Mine.view_ loose mean mg mb h₀) 
    {d gx lc v g : Addr} {vs us : List Value} {ds codes : List Int} {b : Int} {tb : Tok} {nn n2 : Nat} {R : List (Addr × Obj)} {ha hb hc : Int} {ka kb kc : Nat} (hi : IntsAre us codes) (hok : CodesOk codes) (hdi : IntsAre vs ds) (hdo : DeckOk ds) (hbb : 1 ≤ b ∧ b ≤ 8) (hd : @LT.lt Nat _ (L + 6) d) (hgx : @LT.lt Nat _ d gx) {u : Str → Option Value}
    (hv : ViewAt R v codes) (hg : (g, instObj 157 gx) ∈ R) (hlc : (lc, listOf us.toArray n2) ∈ R) (hR1 : ∀ p ∈ R, p.1 ≠ d) (hR2 : ∀ p ∈ R, p.1 ≠ gx) (hRc : ∀ p ∈ R, ∀ c : Nat, @LE.le Nat _ (L + 1) c → @LE.le Nat _ c (L + 6) → @Ne Nat p.1 c) {ll : Addr} {lus : List Value} {lls : List Str} (hll : StrsAre lus lls) (hln : 1 ≤ lls.length ∧ lls.length ≤ 27 ∧ ∀ x ∈ lls, x.length ≤ 26) (dc1 : o1.data = .cell (some (.ref ll))) (hlm : (ll, listOf lus.toArray 0) ∈ R) {ls : Addr} {sus : List Value} (hsi : IntsAre sus (startsL lls)) (hlsm : (ls, listOf sus.toArray sus.length) ∈ R) {f : Bool} {P : Int} {tp : Tok} (dc2 : o2.data = .cell (some (.int P tp))) (hP : 1 ≤ P ∧ P ≤ 1 + (codes.length : Int)){col : Value} {ie : Bool} (hM : ∃ j x, LineAt codes lls b P j x) (hH : HeldOk o3 R col ie) (h4 : ∃ c, o4.data = .cell c)
    (F : Fr h₀ L s.heap (kstB u [(Str.ofString "_law_deck", .ref d), (Str.ofString "_law_codes", .ref lc), (Str.ofString "_law_width", .int b tb), (Str.ofString "_law_view", .ref v), (Str.ofString "_law_goal", .ref g), (Str.ofString "_law_starts", .ref ls), (Str.ofString "_law_follows", .bool f)])) (N : News h₀ L s.heap ((gx, goalE ha hb hc ka kb kc 3 col ie) :: (d, listOf vs.toArray nn) :: (L + 1 + 1 + 1 + 1 + 1 + 1, o6) :: (L + 1 + 1 + 1 + 1 + 1, o5) :: (L + 1 + 1 + 1 + 1, o4) :: (L + 1 + 1 + 1, o3) :: (L + 1 + 1, o2) :: (L + 1, o1) :: R))
    (hQ : ∀ (fl : Flow) (Xs : List (Addr × Obj)) (P' : Int) (tp' : Tok) (vs' : List Value) (ds' : List Int) (nn' : Nat) (o4' o3' o2' : Obj) (col' : Value) (ie' : Bool) u' h' tk', (fl = .next ∨ fl = .cont) → Fr h₀ L h' (kstB u' [(Str.ofString "_law_deck", .ref d), (Str.ofString "_law_codes", .ref lc), (Str.ofString "_law_width", .int b tb), (Str.ofString "_law_view", .ref v), (Str.ofString "_law_goal", .ref g), (Str.ofString "_law_starts", .ref ls), (Str.ofString "_law_follows", .bool f)]) →
      News h₀ L h' ((gx, goalE ha hb hc ka kb kc 3 col' ie') :: (d, listOf vs'.toArray nn') :: (L + 1 + 1 + 1 + 1 + 1 + 1, o6) :: (L + 1 + 1 + 1 + 1 + 1, o5) :: (L + 1 + 1 + 1 + 1, o4') :: (L + 1 + 1 + 1, o3') :: (L + 1 + 1, o2') :: (L + 1, o1) :: (Xs ++ R)) → o2'.data = .cell (some (.int P' tp')) → 1 ≤ P' ∧ P' ≤ 1 + (codes.length : Int) → IntsAre vs' ds' → DeckOk ds' → HeldOk o3' (Xs ++ R) col' ie' → (∃ c, o4'.data = .cell c) → (∀ p ∈ Xs, @LT.lt Nat _ gx p.1 ∧ @LT.lt Nat _ (L + 6) p.1 ∧ ∀ q ∈ R, q.1 ≠ p.1) → Q fl { s with heap := h', toks := tk' }) : wpAny (model PySem.Challenge.rw_np0031_01.row.prog w) (callerA.deeper (envOfC (Str.ofString "law") lawScope L fa ccd)) (execs loopBody (envOfC (Str.ofString "law") lawScope L fa ccd)) Q E s := by
  have h3 : ∃ c3, o3.data = .cell c3 := by
    rcases hH with h | ⟨_, _, _, _, h, _⟩
    · exact ⟨_, h⟩
    · exact ⟨_, h⟩
  obtain ⟨c3, dc3⟩ := h3
  obtain ⟨j, x, M⟩ := hM
  rw [loopBody_eq]
  refine wpAny_execs_cons (turn_0 L ccd h₀ _ _ _ B X T hi hok hdi hdo hbb hd hgx hv hg hlc hR1 hR2 hRc hll hln dc1 hlm hsi hlsm dc2 hP F N ?_)
  intro ta u' h' tk' F N
  rw [M.cnt] at F
  refine wpAny_execs_cons (turn_1 L ccd h₀ _ _ _ B X T hi hok hdi hdo hbb hd hgx hv hg hlc hR1 hR2 hRc hll hln dc1 hlm hsi hlsm dc2 hP F N dc3 ?_ ?_)
  · intro vs' ds' nn' h' tk' F N hdi hdo
    rcases hH with hn | ⟨ht, c, tc1, tc2, dc3, hht, hcol⟩
    · refine wpAny_execs_cons (turn_2a L ccd h₀ _ _ _ B X T hi hok hdi hdo hbb hd hgx hv hg hlc hR1 hR2 hRc hll hln dc1 hlm hsi hlsm dc2 hP M.item M.start M.stop M.col (leN_ge _ _) (lsN_le _ _) F N hn ?_)
      intro ht t t' o3' u' h' tk' dc3' F N g1 g2 g3
      refine turn_b L ccd h₀ _ _ _ B X T hi hok hdi hdo hbb hd hgx (view_cons hv) (.tail _ hg) (.tail _ hlc) (List.forall_mem_cons.mpr ⟨Nat.ne_of_gt (Nat.lt_trans hgx g1), hR1⟩) (List.forall_mem_cons.mpr ⟨Nat.ne_of_gt g1, hR2⟩) (List.forall_mem_cons.mpr ⟨fun c _ h2 e => absurd (Nat.lt_of_lt_of_le g2 (Nat.le_trans (Nat.le_of_eq e) h2)) (Nat.lt_irrefl _), hRc⟩) hll hln dc1 (.tail _ hlm) hsi (.tail _ hlsm) dc2 hP dc3' (.head _) M h4 F N ?_
      intro fl P' tp' vs' ds' nn' o4' o2' u' h' tk' hf F N dc2' hP' hdi' hdo' h4'
      exact hQ fl [(ht, _)] P' tp' _ _ _ _ _ _ _ _ _ _ _ hf F N dc2' hP' hdi' hdo' (.inr ⟨ht, _, _, _, dc3', .head _, rfl⟩) h4' (List.forall_mem_cons.mpr ⟨⟨g1, g2, g3⟩, fun _ h => nomatch h⟩)
    · subst hcol
      refine wpAny_execs_cons (turn_2b L ccd h₀ _ _ _ B X T hi hok hdi hdo hbb hd hgx hv hg hlc hR1 hR2 hRc hll hln dc1 hlm hsi hlsm dc2 hP dc3 hht F N ?_)
      intro h' tk' F N
      refine turn_b L ccd h₀ _ _ _ B X T hi hok hdi hdo hbb hd hgx hv hg hlc hR1 hR2 hRc hll hln dc1 hlm hsi hlsm dc2 hP dc3 hht M h4 F N ?_
      intro fl P' tp' vs' ds' nn' o4' o2' u' h' tk' hf F N dc2' hP' hdi' hdo' h4'
      exact hQ fl [] P' tp' _ _ _ _ _ _ _ _ _ _ _ hf F N dc2' hP' hdi' hdo' (.inr ⟨ht, _, _, _, dc3, hht, rfl⟩) h4' (fun _ h => nomatch h)
  · intro P' tp' vs' ds' nn' o2' o3' u' h' tk' dc2' dc3' F N hP1 hP2 hdi' hdo'
    exact hQ .cont [] P' tp' _ _ _ _ _ _ _ _ _ _ _ (.inr rfl) F N dc2' ⟨hP1, hP2⟩ hdi' hdo' (.inl dc3') h4 (fun _ h => nomatch h)

theorem tup_ne_it {a b : Value} {x l : Int} : tup2 a b ≠ itR x l := fun e => by
  have := congrArg Obj.cls e
  simp [tup2, itR] at this
theorem mem_mid {p x : Addr × Obj} {A Xs R : List (Addr × Obj)} (h : p ∈ x :: (A ++ (Xs ++ R))) : p ∈ A ++ (Xs ++ x :: R) := by
  simp only [List.mem_cons, List.mem_append] at h ⊢
  rcases h with h | h | h | h
  · exact .inr (.inr (.inl h))
  · exact .inl h
  · exact .inr (.inl h)
  · exact .inr (.inr (.inr h))
theorem held_off {o3 : Obj} {Xs R : List (Addr × Obj)} {I : Addr} {x l : Int} {col : Value} {ie : Bool} (h : HeldOk o3 (Xs ++ (I, itR x l) :: R) col ie) : HeldOk o3 (Xs ++ R) col ie := by
  rcases h with h | ⟨ht, c, tc1, tc2, h1, h2, h3⟩
  · exact .inl h
  · refine .inr ⟨ht, c, tc1, tc2, h1, ?_, h3⟩
    rcases List.mem_append.mp h2 with h2 | h2
    · exact List.mem_append.mpr (.inl h2)
    · rcases List.mem_cons.mp h2 with h2 | h2
      · exact absurd (congrArg Prod.snd h2) tup_ne_it
      · exact List.mem_append.mpr (.inr h2)
set_option maxHeartbeats 2000000 in
theorem law_loop {fa : Addr} {o6 o5 o4 o3 o2 o1 : Obj} (L : Addr) (ccd : Value) (h₀ : Heap) (s : Shared) (Q : Flow → Shared → Prop) (E : Value → Shared → Prop)
    (B : Below callerA h₀ [] h₀) (X : (Mine.hd.heap_1 w.params).In h₀) (T : Top Mine.view_ loose mean mg mb h₀) 
    {d gx lc v g : Addr} {vs us : List Value} {ds codes : List Int} {b : Int} {tb : Tok} {nn n2 : Nat} {R : List (Addr × Obj)} {ha hb hc : Int} {ka kb kc : Nat} (hi : IntsAre us codes) (hok : CodesOk codes) (hdi : IntsAre vs ds) (hdo : DeckOk ds) (hbb : 1 ≤ b ∧ b ≤ 8) (hd : @LT.lt Nat _ (L + 6) d) (hgx : @LT.lt Nat _ d gx) {u : Str → Option Value}
    (hv : ViewAt R v codes) (hg : (g, instObj 157 gx) ∈ R) (hlc : (lc, listOf us.toArray n2) ∈ R) (hR1 : ∀ p ∈ R, p.1 ≠ d) (hR2 : ∀ p ∈ R, p.1 ≠ gx) (hRc : ∀ p ∈ R, ∀ c : Nat, @LE.le Nat _ (L + 1) c → @LE.le Nat _ c (L + 6) → @Ne Nat p.1 c) {ll : Addr} {lus : List Value} {lls : List Str} (hll : StrsAre lus lls) (hln : 1 ≤ lls.length ∧ lls.length ≤ 27 ∧ ∀ x ∈ lls, x.length ≤ 26) (dc1 : o1.data = .cell (some (.ref ll))) (hlm : (ll, listOf lus.toArray 0) ∈ R) {ls : Addr} {sus : List Value} (hsi : IntsAre sus (startsL lls)) (hlsm : (ls, listOf sus.toArray sus.length) ∈ R) {f : Bool} {P : Int} {tp : Tok} (dc2 : o2.data = .cell (some (.int P tp))) (hP : 1 ≤ P ∧ P ≤ 1 + (codes.length : Int)){col : Value} {ie : Bool} (hM : ∀ P, 1 ≤ P ∧ P ≤ 1 + (codes.length : Int) → ∃ j x, LineAt codes lls b P j x) (hH : HeldOk o3 R col ie) (h4 : ∃ c, o4.data = .cell c) (hE : PassesOwn (model PySem.Challenge.rw_np0031_01.row.prog w) (callerA.deeper (envOfC (Str.ofString "law") lawScope L fa ccd)) (envOfC (Str.ofString "law") lawScope L fa ccd) E)
    (F : Fr h₀ L s.heap (kstB u [(Str.ofString "_law_deck", .ref d), (Str.ofString "_law_codes", .ref lc), (Str.ofString "_law_width", .int b tb), (Str.ofString "_law_view", .ref v), (Str.ofString "_law_goal", .ref g), (Str.ofString "_law_starts", .ref ls), (Str.ofString "_law_follows", .bool f)])) (N : News h₀ L s.heap ((gx, goalE ha hb hc ka kb kc 3 col ie) :: (d, listOf vs.toArray nn) :: (L + 1 + 1 + 1 + 1 + 1 + 1, o6) :: (L + 1 + 1 + 1 + 1 + 1, o5) :: (L + 1 + 1 + 1 + 1, o4) :: (L + 1 + 1 + 1, o3) :: (L + 1 + 1, o2) :: (L + 1, o1) :: R))
    (hQ : ∀ (R' : List (Addr × Obj)) (P' : Int) (tp' : Tok) (vs' : List Value) (ds' : List Int) (nn' : Nat) (o4' o3' o2' : Obj) (col' : Value) (ie' : Bool) u' h' tk', Fr h₀ L h' (kstB u' [(Str.ofString "_law_deck", .ref d), (Str.ofString "_law_codes", .ref lc), (Str.ofString "_law_width", .int b tb), (Str.ofString "_law_view", .ref v), (Str.ofString "_law_goal", .ref g), (Str.ofString "_law_starts", .ref ls), (Str.ofString "_law_follows", .bool f)]) →
      News h₀ L h' ((gx, goalE ha hb hc ka kb kc 3 col' ie') :: (d, listOf vs'.toArray nn') :: (L + 1 + 1 + 1 + 1 + 1 + 1, o6) :: (L + 1 + 1 + 1 + 1 + 1, o5) :: (L + 1 + 1 + 1 + 1, o4') :: (L + 1 + 1 + 1, o3') :: (L + 1 + 1, o2') :: (L + 1, o1) :: R') → o2'.data = .cell (some (.int P' tp')) → 1 ≤ P' ∧ P' ≤ 1 + (codes.length : Int) → IntsAre vs' ds' → DeckOk ds' → (∀ p ∈ R, p ∈ R') → (∀ p ∈ R', p.1 ≠ d) → (∀ p ∈ R', p.1 ≠ gx) → (∀ p ∈ R', ∀ c : Nat, @LE.le Nat _ (L + 1) c → @LE.le Nat _ c (L + 6) → @Ne Nat p.1 c) → Q .next { s with heap := h', toks := tk' }) : wpAny (model PySem.Challenge.rw_np0031_01.row.prog w) (callerA.deeper (envOfC (Str.ofString "law") lawScope L fa ccd)) (exec (lawStmt 6) (envOfC (Str.ofString "law") lawScope L fa ccd)) Q E s := by
  k_with_none
  w_top off
  revert X
  k_fill
  intro X
  conv => enter [3, 1]; whnf
  conv in (occs := *) lawScope => all_goals whnf
  k_with "pyIter ref" => refine hold_of ?_
  (with_unfolding_all refine' For_invVF (hE := hE) F ?k1 ?k2 ?_; (case k1 => exact rfl); (case k2 => exact rfl))
  k_steps
  unfold Hold
  (rename Fr _ _ _ _ => F9); (rename News _ _ _ _ => N9)
  refine iter_rangeUnr (n := 6) (by rfl) (by assumption) (by decide) (by decide) F9 N9 ?_
  intro I hI
  have hIg : @LT.lt Nat _ gx I := hI _ (.head _)
  have hId : @LT.lt Nat _ d I := hI _ (.tail _ (.head _))
  have hIc : @LT.lt Nat _ (L + 6) I := hI _ (.tail _ (.tail _ (.head _)))
  have hIR : ∀ p ∈ R, p.1 ≠ I := fun p hp => Nat.ne_of_lt (hI p (by repeat (first | exact hp | refine List.mem_cons_of_mem _ ?_)))
  have rest : ∀ (hh : Heap) (tt : Nat) (k i : Nat) (m : Str → Option Value) (nx : List (Addr × Obj)), (∃ (R' : List (Addr × Obj)) (P' : Int) (tp' : Tok) (vs' : List Value) (ds' : List Int) (nn' : Nat) (o4' o3' o2' : Obj) (col' : Value) (ie' : Bool) (u' : Str → Option Value), m = kstB u' [(Str.ofString "_law_deck", .ref d), (Str.ofString "_law_codes", .ref lc), (Str.ofString "_law_width", .int b tb), (Str.ofString "_law_view", .ref v), (Str.ofString "_law_goal", .ref g), (Str.ofString "_law_starts", .ref ls), (Str.ofString "_law_follows", .bool f)] ∧
      nx = ((gx, goalE ha hb hc ka kb kc 3 col' ie') :: (d, listOf vs'.toArray nn') :: (L + 1 + 1 + 1 + 1 + 1 + 1, o6) :: (L + 1 + 1 + 1 + 1 + 1, o5) :: (L + 1 + 1 + 1 + 1, o4') :: (L + 1 + 1 + 1, o3') :: (L + 1 + 1, o2') :: (L + 1, o1) :: R') ∧ o2'.data = .cell (some (.int P' tp')) ∧ (1 ≤ P' ∧ P' ≤ 1 + (codes.length : Int)) ∧ IntsAre vs' ds' ∧ DeckOk ds' ∧ HeldOk o3' R' col' ie' ∧ (∃ c, o4'.data = .cell c) ∧ (∀ p ∈ R, p ∈ R') ∧ (∀ p ∈ R', p.1 ≠ d) ∧ (∀ p ∈ R', p.1 ≠ gx) ∧ (∀ p ∈ R', ∀ c : Nat, @LE.le Nat _ (L + 1) c → @LE.le Nat _ c (L + 6) → @Ne Nat p.1 c) ∧ (∀ p ∈ R', p.1 ≠ I)) →
      RangeRest PySem.Challenge.rw_np0031_01.row.prog w (callerA.deeper (envOfC (Str.ofString "law") lawScope L fa ccd)) E h₀ (envOfC (Str.ofString "law") lawScope L fa ccd) (Str.ofString "_law_turn") loopBody Q { s with heap := hh, toks := tt } I 0 6 k i m nx := by
    intro hh tt k
    induction k with
    | zero =>
      rintro i m nx ⟨R', P', tp', vs', ds', nn', o4', o3', o2', col', ie', u', rfl, rfl, dc2', hP', hdi', hdo', hH', h4', hs, h1', h2', hc', hI'⟩
      refine RangeRest.zero fun h tk F N => ?_
      exact hQ R' P' tp' vs' ds' nn' o4' o3' o2' col' ie' u' h tk F N dc2' hP' hdi' hdo' hs h1' h2' hc'
    | succ k ih =>
      rintro i m nx ⟨R', P', tp', vs', ds', nn', o4', o3', o2', col', ie', u', rfl, rfl, dc2', hP', hdi', hdo', hH', h4', hs, h1', h2', hc', hI'⟩
      refine RangeRest.succ fun t h tk F N => ?_
      refine turn_ L ccd h₀ _ _ E B X T hi hok hdi' hdo' hbb hd hgx (view_cons (hv.mono hs)) (.tail _ (hs _ hg)) (.tail _ (hs _ hlc)) (List.forall_mem_cons.mpr ⟨Ne.symm (Nat.ne_of_lt hId), h1'⟩) (List.forall_mem_cons.mpr ⟨Ne.symm (Nat.ne_of_lt hIg), h2'⟩) (List.forall_mem_cons.mpr ⟨fun c _ h2 e => absurd (Nat.lt_of_lt_of_le hIc (Nat.le_trans (Nat.le_of_eq e) h2)) (Nat.lt_irrefl _), hc'⟩) hll hln dc1 (.tail _ (hs _ hlm)) hsi (.tail _ (hs _ hlsm)) dc2' hP' (hM P' hP') ?_ h4' (fr_self _ F (by kst_all)) (cb_drop N (by kst_allIn)) ?_
      · rcases hH' with h | ⟨ht, c, tc1, tc2, q1, q2, q3⟩
        · exact .inl h
        · exact .inr ⟨ht, c, tc1, tc2, q1, .tail _ q2, q3⟩
      intro fl Xs P2 tp2 vs2 ds2 nn2 o42 o32 o22 col2 ie2 u2 h2 tk2 hf F2 N2 dc22 hP2 hdi2 hdo2 hH2 h42 hX
      have hne : ∀ p ∈ Xs, p.1 ≠ I := fun p hp => Ne.symm ((hX p hp).2.2 (I, _) (.head _))
      have hend := UnrEnd.intro (s₁ := { s with heap := h, toks := tk }) (tk := tk2) F2 N2 ((gx, goalE ha hb hc ka kb kc 3 col2 ie2) :: (d, listOf vs2.toArray nn2) :: (L + 1 + 1 + 1 + 1 + 1 + 1, o6) :: (L + 1 + 1 + 1 + 1 + 1, o5) :: (L + 1 + 1 + 1 + 1, o42) :: (L + 1 + 1 + 1, o32) :: (L + 1 + 1, o22) :: (L + 1, o1) :: (Xs ++ R')) (fun p hp => mem_mid (A := [_, _, _, _, _, _, _, _]) hp)
        (List.forall_mem_cons.mpr ⟨Nat.ne_of_lt hIg, List.forall_mem_cons.mpr ⟨Nat.ne_of_lt hId, List.forall_mem_cons.mpr ⟨by k_ne, List.forall_mem_cons.mpr ⟨by k_ne, List.forall_mem_cons.mpr ⟨by k_ne, List.forall_mem_cons.mpr ⟨by k_ne, List.forall_mem_cons.mpr ⟨by k_ne, List.forall_mem_cons.mpr ⟨by k_ne, List.forall_mem_append.mpr ⟨hne, hI'⟩⟩⟩⟩⟩⟩⟩⟩⟩)
        (ih (i + 1) _ _ ⟨Xs ++ R', P2, tp2, vs2, ds2, nn2, o42, o32, o22, col2, ie2, u2, rfl, rfl, dc22, hP2, hdi2, hdo2, held_off hH2, h42, fun p hp => List.mem_append.mpr (.inr (hs p hp)),
          List.forall_mem_append.mpr ⟨fun p hp => Nat.ne_of_gt (Nat.lt_trans hgx (hX p hp).1), h1'⟩, List.forall_mem_append.mpr ⟨fun p hp => Nat.ne_of_gt (hX p hp).1, h2'⟩,
          List.forall_mem_append.mpr ⟨fun p hp c _ h2 e => absurd (Nat.lt_of_lt_of_le (hX p hp).2.1 (Nat.le_trans (Nat.le_of_eq e) h2)) (Nat.lt_irrefl _), hc'⟩, List.forall_mem_append.mpr ⟨hne, hI'⟩⟩)
      rcases hf with rfl | rfl
      · exact hend
      · exact hend
  refine rest _ _ 6 0 _ _ ⟨R, P, tp, vs, ds, nn, o4, o3, o2, col, ie, u, rfl, rfl, dc2, hP, hdi, hdo, hH, h4, fun _ h => h, hR1, hR2, hRc, hIR⟩

section
variable {codes : List Int}
/-- the lines from an offset on: begin and end -/
def segs (codes : List Int) (s : Nat) : List (Nat × Nat) := if leN codes s < codes.length then (s, leN codes s) :: segs codes (leN codes s + 1) else [(s, leN codes s)]
termination_by codes.length - s
decreasing_by have := leN_ge codes s; omega
theorem segs_more {s : Nat} (h : leN codes s < codes.length) : segs codes s = (s, leN codes s) :: segs codes (leN codes s + 1) := by rw [segs, if_pos h]
theorem segs_last {s : Nat} (h : ¬ leN codes s < codes.length) : segs codes s = [(s, leN codes s)] := by rw [segs, if_neg h]
theorem segs_pos (s : Nat) : 1 ≤ (segs codes s).length := by
  by_cases h : leN codes s < codes.length
  · rw [segs_more h]; simp
  · rw [segs_last h]; simp
theorem leN_at (s : Nat) (h : leN codes s < codes.length) : codes.getD (leN codes s) 0 = 10 := by
  induction s using leN.induct (codes := codes) with
  | case1 p hp ih => rw [leN_step hp] at h ⊢; exact ih h
  | case2 p hp =>
    rw [leN_stop hp] at h ⊢
    exact Classical.byContradiction fun q => hp ⟨h, q⟩
theorem leN_free (s : Nat) : ∀ i, s ≤ i → i < leN codes s → codes.getD i 0 ≠ 10 ∧ i < codes.length := by
  induction s using leN.induct (codes := codes) with
  | case1 p hp ih =>
    intro i h1 h2
    rw [leN_step hp] at h2
    by_cases e : i = p
    · subst e; exact ⟨hp.2, hp.1⟩
    · exact ih i (by omega) h2
  | case2 p hp => intro i h1 h2; rw [leN_stop hp] at h2; omega
theorem leN_mid {s : Nat} : ∀ k, s + k ≤ leN codes s → leN codes (s + k) = leN codes s
  | 0, _ => rfl
  | k + 1, h => by
    have ih := leN_mid (s := s) k (by omega)
    have hf := leN_free (codes := codes) s (s + k) (by omega) (by omega)
    rw [← ih, leN_step (p := s + k) ⟨hf.2, hf.1⟩, Nat.add_assoc]
theorem lsN_mid {s : Nat} (hs : lsN codes s = s) : ∀ k, s + k ≤ leN codes s → lsN codes (s + k) = s
  | 0, _ => hs
  | k + 1, h => by
    have ih := lsN_mid hs k (by omega)
    have hf := leN_free (codes := codes) s (s + k) (by omega) (by omega)
    show lsN codes (s + k + 1) = s
    unfold lsN
    rw [if_neg hf.1]; exact ih
theorem lsN_after {s : Nat} (h : leN codes s < codes.length) : lsN codes (leN codes s + 1) = leN codes s + 1 := by
  unfold lsN; rw [if_pos (leN_at s h)]
/-- induction along the lines -/
theorem segs_ind {M : Nat → Prop} (more : ∀ s, s ≤ codes.length → lsN codes s = s → leN codes s < codes.length → M (leN codes s + 1) → M s) (last : ∀ s, s ≤ codes.length → lsN codes s = s → ¬ leN codes s < codes.length → M s) : ∀ s, s ≤ codes.length → lsN codes s = s → M s := by
  intro s
  induction s using segs.induct (codes := codes) with
  | case1 s h ih => intro h1 h2; exact more s h1 h2 h (ih (by omega) (lsN_after h))
  | case2 s h => intro h1 h2; exact last s h1 h2 h
theorem segs_ge : ∀ s, s ≤ codes.length → lsN codes s = s → ∀ p ∈ segs codes s, s ≤ p.1 := by
  refine segs_ind (fun s h1 h2 h ih => ?_) fun s h1 h2 h => ?_
  · rw [segs_more h]
    intro p hp
    rcases List.mem_cons.mp hp with rfl | hp
    · exact Nat.le_refl _
    · have := ih p hp; have := leN_ge codes s; omega
  · rw [segs_last h]
    intro p hp
    rw [List.mem_singleton.mp hp]; exact Nat.le_refl _
/-- what stands at a place of the list of lines -/
theorem segs_at : ∀ s, s ≤ codes.length → lsN codes s = s → ∀ j p, (segs codes s)[j]? = some p → p.2 = leN codes p.1 ∧ lsN codes p.1 = p.1 ∧ p.1 ≤ codes.length ∧ segs codes p.1 = (segs codes s).drop j := by
  refine segs_ind (fun s h1 h2 h ih => ?_) fun s h1 h2 h => ?_
  · rw [segs_more h]
    intro j p hp
    cases j with
    | zero => cases hp; exact ⟨rfl, h2, h1, segs_more h⟩
    | succ j => exact ih j p hp
  · rw [segs_last h]
    intro j p hp
    cases j with
    | zero => cases hp; exact ⟨rfl, h2, h1, segs_last h⟩
    | succ j => cases hp
theorem segs_next : ∀ s, s ≤ codes.length → lsN codes s = s → ∀ j p q, (segs codes s)[j]? = some p → (segs codes s)[j + 1]? = some q → q.1 = leN codes p.1 + 1 := by
  refine segs_ind (fun s h1 h2 h ih => ?_) fun s h1 h2 h => ?_
  · rw [segs_more h]
    intro j p q hp hq
    cases j with
    | zero =>
      cases hp
      have hq' : (segs codes (leN codes s + 1))[0]? = some q := hq
      by_cases h' : leN codes (leN codes s + 1) < codes.length
      · rw [segs_more h'] at hq'; cases hq'; rfl
      · rw [segs_last h'] at hq'; cases hq'; rfl
    | succ j => exact ih j p q hp hq
  · rw [segs_last h]
    intro j p q hp hq
    cases hq
/-- the line that holds an offset, and its number -/
theorem segs_find : ∀ s, s ≤ codes.length → lsN codes s = s → ∀ q, s ≤ q → q ≤ codes.length → ∃ j, (segs codes s)[j]? = some (lsN codes q, leN codes q) ∧ ((segs codes s).filter fun p => decide (p.1 ≤ q)).length = j + 1 := by
  refine segs_ind (fun s h1 h2 h ih => ?_) fun s h1 h2 h => ?_
  · intro q hq hn
    have hle := leN_ge codes s
    rw [segs_more h]
    by_cases e : q ≤ leN codes s
    · refine ⟨0, ?_, ?_⟩
      · have h3 := lsN_mid h2 (q - s) (by omega)
        have h4 := leN_mid (codes := codes) (s := s) (q - s) (by omega)
        rw [show s + (q - s) = q from by omega] at h3 h4
        rw [h3, h4]; rfl
      · rw [List.filter_cons_of_pos (by simpa using hq), List.length_cons]
        refine congrArg (· + 1) (List.length_eq_zero_iff.mpr (List.filter_eq_nil_iff.mpr fun p hp => ?_))
        have := segs_ge (leN codes s + 1) (by omega) (lsN_after h) p hp
        simp only [decide_eq_true_eq]; omega
    · obtain ⟨j, h3, h4⟩ := ih q (by omega) hn
      exact ⟨j + 1, h3, by rw [List.filter_cons_of_pos (by simpa using hq), List.length_cons, h4]⟩
  · intro q hq hn
    rw [segs_last h]
    have hle := leN_ge codes s
    have hll := leN_len codes s h1
    refine ⟨0, ?_, ?_⟩
    · have h3 := lsN_mid h2 (q - s) (by omega)
      have h4 := leN_mid (codes := codes) (s := s) (q - s) (by omega)
      rw [show s + (q - s) = q from by omega] at h3 h4
      rw [h3, h4]; rfl
    · rw [List.filter_cons_of_pos (by simpa using hq)]; rfl
theorem segs_dw : ∀ s, s ≤ codes.length → lsN codes s = s → ∀ k, dwK codes s k = match (segs codes s)[k]? with | some p => (p.1, false) | none => (codes.length, true) := by
  refine segs_ind (fun s h1 h2 h ih => ?_) fun s h1 h2 h => ?_
  · intro k
    rw [segs_more h]
    cases k with
    | zero => rfl
    | succ k =>
      unfold dwK
      rw [if_neg (by omega)]
      exact ih k
  · intro k
    rw [segs_last h]
    have hll := leN_len codes s h1
    cases k with
    | zero => rfl
    | succ k =>
      unfold dwK
      rw [if_pos (by omega)]
      cases k <;> rfl
theorem segs_dn : ∀ s, s ≤ codes.length → lsN codes s = s → ∀ k, (dnK codes s k).1 = match (segs codes s)[k]? with | some p => 1 + (p.1 : Int) | none => 1 + (codes.length : Int) := by
  refine segs_ind (fun s h1 h2 h ih => ?_) fun s h1 h2 h => ?_
  · intro k
    rw [segs_more h]
    cases k with
    | zero => rfl
    | succ k =>
      unfold dnK
      rw [if_pos h]
      exact ih k
  · intro k
    rw [segs_last h]
    cases k with
    | zero => rfl
    | succ k =>
      unfold dnK
      rw [if_neg h]
      cases k <;> rfl
theorem segs_after : ∀ s, s ≤ codes.length → lsN codes s = s → ∀ q, s ≤ q → q ≤ codes.length → ∀ z : Int, (((segs codes s).filter fun p => decide (q < p.1)).map (fun p => 1 + (p.1 : Int)) ++ [z]).getD 0 0 = if leN codes q < codes.length then 1 + ((leN codes q + 1 : Nat) : Int) else z := by
  refine segs_ind (fun s h1 h2 h ih => ?_) fun s h1 h2 h => ?_
  · intro q hq hn z
    have hle := leN_ge codes s
    rw [segs_more h, List.filter_cons_of_neg (by simpa using hq)]
    by_cases e : q ≤ leN codes s
    · have h4 := leN_mid (codes := codes) (s := s) (q - s) (by omega)
      rw [show s + (q - s) = q from by omega] at h4
      rw [h4, if_pos h]
      by_cases h' : leN codes (leN codes s + 1) < codes.length
      · rw [segs_more h', List.filter_cons_of_pos (by simp only [decide_eq_true_eq]; omega)]; rfl
      · rw [segs_last h', List.filter_cons_of_pos (by simp only [decide_eq_true_eq]; omega)]; rfl
    · exact ih q (by omega) hn z
  · intro q hq hn z
    have hll := leN_len codes s h1
    have hle := leN_ge codes s
    have h4 := leN_mid (codes := codes) (s := s) (q - s) (by omega)
    rw [show s + (q - s) = q from by omega] at h4
    rw [segs_last h, h4, if_neg h, List.filter_cons_of_neg (by simpa using hq)]; rfl
end

section
variable {codes : List Int}
def lineTx (codes : List Int) (p : Nat × Nat) : Str := KStt.txt ((codes.drop p.1).take (p.2 - p.1))
def Lns (codes : List Int) (lls : List Str) : Prop := lls = (segs codes 0).map (lineTx codes)
theorem codes_txt {l : List Int} (h : ∀ z ∈ l, 0 ≤ z) : KStt.codes (KStt.txt l) = l := by
  show (l.map Int.toNat).toArray.toList.map (fun (c : Nat) => (c : Int)) = l
  rw [List.map_map]
  have : ∀ z ∈ l, ((fun (c : Nat) => (c : Int)) ∘ Int.toNat) z = z := fun z hz => Int.toNat_of_nonneg (h z hz)
  calc _ = l.map id := List.map_congr_left this
    _ = l := List.map_id l
theorem slice_len {s e : Nat} (h : e ≤ codes.length) : ((codes.drop s).take (e - s)).length = e - s := by
  rw [List.length_take, List.length_drop]; omega
theorem lineTx_len {p : Nat × Nat} (h : p.2 ≤ codes.length) : (lineTx codes p).length = p.2 - p.1 := by
  unfold lineTx; rw [KStt.txt_length, slice_len h]
theorem seg0_at {j : Nat} {p : Nat × Nat} (h : (segs codes 0)[j]? = some p) : p.2 = leN codes p.1 ∧ lsN codes p.1 = p.1 ∧ p.1 ≤ codes.length ∧ segs codes p.1 = (segs codes 0).drop j := segs_at 0 (Nat.zero_le _) rfl j p h
theorem seg0_le {j : Nat} {p : Nat × Nat} (h : (segs codes 0)[j]? = some p) : p.1 ≤ p.2 ∧ p.2 ≤ codes.length := by
  obtain ⟨h1, _, h3, _⟩ := seg0_at h
  rw [h1]; exact ⟨leN_ge _ _, leN_len _ _ h3⟩
theorem seg0_zero : (segs codes 0)[0]? = some (0, leN codes 0) := by
  by_cases h : leN codes 0 < codes.length
  · rw [segs_more h]; rfl
  · rw [segs_last h]; rfl
theorem startAt_seg {lls : List Str} (hL : Lns codes lls) : ∀ (j : Nat) (p : Nat × Nat), (segs codes 0)[j]? = some p → startAt lls j = 1 + (p.1 : Int)
  | 0, p, hp => by
    rw [seg0_zero] at hp
    cases hp
    simp [startAt]
  | j + 1, p, hp => by
    have hlt : j + 1 < (segs codes 0).length := (List.getElem?_eq_some_iff.mp hp).1
    have hq : (segs codes 0)[j]? = some ((segs codes 0)[j]'(by omega)) := List.getElem?_eq_getElem (by omega)
    have ih := startAt_seg hL j _ hq
    have hn := segs_next 0 (Nat.zero_le _) rfl j _ _ hq hp
    obtain ⟨h1, _, h3, _⟩ := seg0_at hq
    obtain ⟨h5, h6⟩ := seg0_le hq
    have hl : lls[j]? = some (lineTx codes ((segs codes 0)[j]'(by omega))) := by rw [hL, List.getElem?_map, hq]; rfl
    unfold startAt at ih ⊢
    rw [List.take_add_one, hl, List.map_append, List.sum_append]
    show 1 + (_ + (((lineTx codes ((segs codes 0)[j]'(by omega))).length : Int) + 1 + 0)) = _
    rw [lineTx_len h6]
    omega
theorem lns_len {lls : List Str} (hL : Lns codes lls) : lls.length = (segs codes 0).length := by rw [hL, List.length_map]
theorem startsL_seg {lls : List Str} (hL : Lns codes lls) : startsL lls = (segs codes 0).map fun p => 1 + (p.1 : Int) := by
  refine List.ext_getElem? fun j => ?_
  unfold startsL
  rw [List.getElem?_map, List.getElem?_map, lns_len hL]
  cases e : (segs codes 0)[j]? with
  | none =>
    have : (segs codes 0).length ≤ j := List.getElem?_eq_none_iff.mp e
    rw [List.getElem?_eq_none_iff.mpr (by rw [List.length_range]; exact this)]; rfl
  | some p =>
    have hlt : j < (segs codes 0).length := (List.getElem?_eq_some_iff.mp e).1
    rw [List.getElem?_range hlt]
    exact congrArg some (startAt_seg hL j p e)
theorem cnt_seg {lls : List Str} (hL : Lns codes lls) {P : Int} (hP : 1 ≤ P) : cntLe (startsL lls) P = ((segs codes 0).filter fun p => decide (p.1 ≤ (P - 1).toNat)).length := by
  unfold cntLe
  rw [startsL_seg hL, List.filter_map, List.length_map]
  refine congrArg List.length (List.filter_congr fun p _ => ?_)
  show decide (1 + (p.1 : Int) ≤ P) = decide (p.1 ≤ (P - 1).toNat)
  by_cases h : p.1 ≤ (P - 1).toNat
  · rw [decide_eq_true h, decide_eq_true (show 1 + (p.1 : Int) ≤ P by omega)]
  · rw [decide_eq_false h, decide_eq_false (show ¬ 1 + (p.1 : Int) ≤ P by omega)]
def Good (codes : List Int) : Prop := ∀ z ∈ codes, z = 9 ∨ z = 10 ∨ (97 ≤ z ∧ z ≤ 101)
theorem good_at (hg : Good codes) {i : Nat} (h : i < codes.length) : codes.getD i 0 = 9 ∨ codes.getD i 0 = 10 ∨ (97 ≤ codes.getD i 0 ∧ codes.getD i 0 ≤ 101) := by
  rw [List.getD_eq_getElem?_getD, List.getElem?_eq_getElem h]
  exact hg _ (List.getElem_mem h)
theorem good_slice (hg : Good codes) (s k : Nat) : ∀ z ∈ (codes.drop s).take k, 0 ≤ z := fun z hz => by
  have := hg z (List.mem_of_mem_drop (List.mem_of_mem_take hz)); omega
theorem colsG_range (hg : Good codes) (b : Int) {s : Nat} : ∀ k, s + k ≤ leN codes s → colsG b ((codes.drop s).take k) = (List.range (k + 1)).map (colF codes b s)
  | 0, _ => rfl
  | k + 1, h => by
    have ih := colsG_range hg b (s := s) k (by omega)
    have hf := leN_free (codes := codes) s (s + k) (by omega) (by omega)
    have hi : (codes.drop s)[k]? = some (codes.getD (s + k) 0) := by
      rw [List.getElem?_drop, List.getD_eq_getElem?_getD, List.getElem?_eq_getElem hf.2]; rfl
    rw [List.take_add_one, hi]
    show colsG b ((codes.drop s).take k ++ [codes.getD (s + k) 0]) = _
    rw [colsG_snoc, ih, List.range_succ (n := k + 1), List.map_append]
    refine congrArg _ ?_
    show [nxt b (((List.range (k + 1)).map (colF codes b s)).getLastD 0) (codes.getD (s + k) 0)] = [colF codes b s (k + 1)]
    have hlast : ((List.range (k + 1)).map (colF codes b s)).getLastD 0 = colF codes b s k := by
      rw [List.range_succ, List.map_append]
      simp [List.getLastD_concat]
    rw [hlast]
    refine congrArg (fun z => [z]) ?_
    have hc : codeAt codes (1 + (s : Int) + (k : Int)) = codes.getD (s + k) 0 := by
      unfold codeAt
      rw [if_pos ⟨by omega, by omega⟩, show (1 + (s : Int) + (k : Int) - 1).toNat = s + k from by omega]
    show nxt b (colF codes b s k) (codes.getD (s + k) 0) = colF codes b s k + wAt (codeAt codes (1 + (s : Int) + (k : Int))) (colF codes b s k) b
    rw [hc]
    have hgo := good_at hg hf.2
    unfold nxt wAt
    rcases hgo with h' | h' | h'
    · rw [if_pos h', if_pos h']
    · exact absurd h' hf.1
    · rw [if_neg (by omega), if_neg (by omega), if_neg (by omega), if_neg (by omega)]
theorem range_map_getD {f : Nat → Int} {n k : Nat} (h : k < n) : ((List.range n).map f).getD k 0 = f k := by
  rw [List.getD_eq_getElem?_getD, List.getElem?_map, List.getElem?_range h]; rfl
theorem paK_spec {b c : Int} {p e : Nat} (k : Nat) (hk : p + k ≤ e) (h0 : ∀ i, i < k → colF codes b p i < c) :
    p + paK codes b c p e k ≤ e ∧ (∀ i, i < paK codes b c p e k → colF codes b p i < c) ∧ (p + paK codes b c p e k = e ∨ c ≤ colF codes b p (paK codes b c p e k)) := by
  induction k using paK.induct (codes := codes) (b := b) (col := c) (p := p) (e := e) with
  | case1 k h ih =>
    rw [paK_step h]
    refine ih (by omega) fun i hi => ?_
    by_cases e' : i = k
    · subst e'; exact h.2
    · exact h0 i (by omega)
  | case2 k h =>
    rw [paK_stop h]
    refine ⟨hk, h0, ?_⟩
    by_cases e' : p + k = e
    · exact .inl e'
    · exact .inr (Int.not_lt.mp fun q => h ⟨by omega, q⟩)
theorem first_of {p : Int → Bool} {n z : Nat} (hz : z < n) (h0 : ∀ i, i < z → p (i : Int) = false) (h1 : p (z : Int) = true) (l : List Int) : (((List.range n).map fun (i : Nat) => (i : Int)).filter p ++ l).getD 0 0 = (z : Int) := by
  have e : n = z + (1 + (n - z - 1)) := by omega
  have hnil : ((List.range z).map fun (i : Nat) => (i : Int)).filter p = [] := List.filter_eq_nil_iff.mpr fun x hx => by
    obtain ⟨i, hi, rfl⟩ := List.mem_map.mp hx
    rw [h0 i (List.mem_range.mp hi)]; exact Bool.false_ne_true
  rw [e, List.range_add, List.map_append, List.filter_append, hnil, List.nil_append, Nat.add_comm 1, List.range_succ_eq_map]
  simp [h1]
theorem none_of {p : Int → Bool} {n : Nat} (h0 : ∀ i, i < n → p (i : Int) = false) (x : Int) : (((List.range n).map fun (i : Nat) => (i : Int)).filter p ++ [x]).getD 0 0 = x := by
  have hnil : ((List.range n).map fun (i : Nat) => (i : Int)).filter p = [] := List.filter_eq_nil_iff.mpr fun x hx => by
    obtain ⟨i, hi, rfl⟩ := List.mem_map.mp hx
    rw [h0 i (List.mem_range.mp hi)]; exact Bool.false_ne_true
  rw [hnil]; rfl
theorem reach_pa {b c : Int} {s e : Nat} (hse : s ≤ e) : reach0 ((List.range (e - s + 1)).map (colF codes b s)) c = (paK codes b c s e 0 : Int) := by
  obtain ⟨h1, h2, h3⟩ := paK_spec (codes := codes) (b := b) (c := c) (p := s) (e := e) 0 (by omega) (fun i hi => absurd hi (Nat.not_lt_zero _))
  have hlen : ((List.range (e - s + 1)).map (colF codes b s)).length = e - s + 1 := by rw [List.length_map, List.length_range]
  unfold reach0 reachL
  rw [hlen]
  have hrow : ∀ i : Nat, i < e - s + 1 → ((List.range (e - s + 1)).map (colF codes b s)).getD ((i : Int)).toNat 0 = colF codes b s i := fun i hi => by rw [Int.toNat_natCast]; exact range_map_getD hi
  by_cases hz : c ≤ colF codes b s (paK codes b c s e 0)
  · refine first_of (by omega) (fun i hi => ?_) ?_ _
    · rw [hrow i (by omega)]
      exact decide_eq_false (Int.not_le.mpr (h2 i hi))
    · rw [hrow _ (by omega)]
      exact decide_eq_true hz
  · rw [none_of (fun i hi => ?_)]
    · rcases h3 with h3 | h3
      · omega
      · exact absurd h3 hz
    · rw [hrow i hi]
      refine decide_eq_false (Int.not_le.mpr ?_)
      rcases h3 with h3 | h3
      · by_cases e' : i = paK codes b c s e 0
        · rw [e']; exact Int.not_le.mp hz
        · exact h2 i (by omega)
      · exact absurd h3 hz
theorem seg_up : ∀ (k j : Nat) (p : Nat × Nat), (segs codes 0)[j]? = some p → upK codes p.1 k = if k ≤ j then ((((segs codes 0)[j - k]?).getD (0, 0)).1, 0) else (0, k - j)
  | 0, j, p, hp => by
    rw [if_pos (Nat.zero_le _), Nat.sub_zero, hp]; rfl
  | k + 1, 0, p, hp => by
    rw [seg0_zero] at hp
    cases hp
    rw [if_neg (by omega)]
    unfold upK
    rw [if_neg (by omega)]; rfl
  | k + 1, j + 1, p, hp => by
    have hlt : j + 1 < (segs codes 0).length := (List.getElem?_eq_some_iff.mp hp).1
    have hq : (segs codes 0)[j]? = some ((segs codes 0)[j]'(by omega)) := List.getElem?_eq_getElem (by omega)
    have ih := seg_up k j _ hq
    have hn := segs_next 0 (Nat.zero_le _) rfl j _ _ hq hp
    obtain ⟨h1, h2, h3, _⟩ := seg0_at hq
    have hge := leN_ge codes ((segs codes 0)[j]'(by omega)).1
    have hm := lsN_mid (codes := codes) h2 (leN codes ((segs codes 0)[j]'(by omega)).1 - ((segs codes 0)[j]'(by omega)).1) (by omega)
    rw [show ((segs codes 0)[j]'(by omega)).1 + (leN codes ((segs codes 0)[j]'(by omega)).1 - ((segs codes 0)[j]'(by omega)).1) = leN codes ((segs codes 0)[j]'(by omega)).1 from by omega] at hm
    unfold upK
    rw [if_pos (by omega), show p.1 - 1 = leN codes ((segs codes 0)[j]'(by omega)).1 from by omega, hm, ih]
    by_cases h : k ≤ j
    · rw [if_pos h, if_pos (by omega), show j + 1 - (k + 1) = j - k from by omega]
    · rw [if_neg h, if_neg (by omega), show k + 1 - (j + 1) = k - j from by omega]
end

section
variable {codes : List Int} {lls : List Str} {b : Int}
theorem seg_item (hL : Lns codes lls) {j : Nat} {p : Nat × Nat} (h : (segs codes 0)[j]? = some p) : lls[j]? = some (lineTx codes p) := by rw [hL, List.getElem?_map, h]; rfl
theorem seg_getD (hL : Lns codes lls) {j : Nat} {p : Nat × Nat} (h : (segs codes 0)[j]? = some p) : lls.getD j Str.empty = lineTx codes p := by rw [List.getD_eq_getElem?_getD, seg_item hL h]; rfl
theorem seg_start (hL : Lns codes lls) {j : Nat} {p : Nat × Nat} (h : (segs codes 0)[j]? = some p) : (startsL lls).getD j 0 = 1 + (p.1 : Int) := by rw [startsL_seg hL, List.getD_eq_getElem?_getD, List.getElem?_map, h]; rfl
theorem seg_cols (hg : Good codes) {j : Nat} {p : Nat × Nat} (h : (segs codes 0)[j]? = some p) : colsG b (KStt.codes (lineTx codes p)) = (List.range (p.2 - p.1 + 1)).map (colF codes b p.1) := by
  obtain ⟨h1, _, _, _⟩ := seg0_at h
  obtain ⟨h2, _⟩ := seg0_le h
  unfold lineTx
  rw [codes_txt (good_slice hg _ _)]
  exact colsG_range hg b _ (by omega)
theorem seg_place (hL : Lns codes lls) (hg : Good codes) {j : Nat} {p : Nat × Nat} (h : (segs codes 0)[j]? = some p) (c : Int) (ie : Bool) :
    placeOn codes b c ie (1 + (p.1 : Int)) = (startsL lls).getD j 0 + (if ie = true then ((lls.getD j Str.empty).length : Int) else reach0 (colsG b (KStt.codes (lls.getD j Str.empty))) c) := by
  obtain ⟨h1, h2, h3, _⟩ := seg0_at h
  obtain ⟨h4, h5⟩ := seg0_le h
  rw [seg_start hL h, seg_getD hL h, seg_cols hg h, lineTx_len h5]
  unfold placeOn
  rw [show (1 + (p.1 : Int) - 1).toNat = p.1 from by omega, ← h1, h2]
  split
  · omega
  · rw [reach_pa h4]
theorem line_at (hL : Lns codes lls) (hg : Good codes) {P : Int} (hP : 1 ≤ P ∧ P ≤ 1 + (codes.length : Int)) : ∃ j x, LineAt codes lls b P j x := by
  obtain ⟨j, hj, hcnt⟩ := segs_find (codes := codes) 0 (Nat.zero_le _) rfl (P - 1).toNat (Nat.zero_le _) (by omega)
  obtain ⟨h1, h2, h3, hdrop⟩ := seg0_at hj
  obtain ⟨h4, h5⟩ := seg0_le hj
  dsimp only at h1 h2 h3 h4 h5 hdrop
  have hls := lsN_le codes (P - 1).toNat
  have hle := leN_ge codes (P - 1).toNat
  have hjl : j < (segs codes 0).length := (List.getElem?_eq_some_iff.mp hj).1
  have hlen := lns_len hL
  refine ⟨j, lineTx codes (lsN codes (P - 1).toNat, leN codes (P - 1).toNat), ?_⟩
  refine { cnt := ?_, item := seg_item hL hj, start := ?_, stop := ?_, col := ?_, hA := ?_, hB := ?_, hC := ?_ }
  · rw [cnt_seg hL hP.1, hcnt]; omega
  · rw [Int.toNat_natCast, seg_start hL hj]
  · rw [lineTx_len h5]; dsimp only; omega
  · rw [seg_cols hg hj]
    dsimp only
    rw [show (P - (1 + (lsN codes (P - 1).toNat : Int))).toNat = (P - 1).toNat - lsN codes (P - 1).toNat from by omega]
    exact range_map_getD (by omega)
  · intro many c ie hm h0 h1'
    have hk : ((j : Int) + many).toNat < (segs codes 0).length := by omega
    have hq : (segs codes 0)[((j : Int) + many).toNat]? = some ((segs codes 0)[((j : Int) + many).toNat]'hk) := List.getElem?_eq_getElem hk
    rw [← seg_place hL hg hq c ie]
    unfold gtV
    by_cases hm0 : 0 ≤ many
    · have hd := segs_dw (codes := codes) (lsN codes (P - 1).toNat) (by omega) h2 many.toNat
      rw [hdrop, List.getElem?_drop, show j + many.toNat = ((j : Int) + many).toNat from by omega, hq] at hd
      dsimp only at hd
      rw [if_pos hm0, hd, if_neg Bool.false_ne_true]
    · have hu := seg_up (codes := codes) (-many).toNat j _ hj
      rw [if_pos (by omega), show j - (-many).toNat = ((j : Int) + many).toNat from by omega, hq] at hu
      dsimp only [Option.getD_some] at hu
      have hl : ltV codes P many = _ := if_pos (by omega)
      rw [if_neg hm0, hl, hu]
      rfl
  · intro many c ie hm h0 h1'
    unfold gtV
    have hd := segs_dw (codes := codes) (lsN codes (P - 1).toNat) (by omega) h2 many.toNat
    rw [hdrop, List.getElem?_drop, List.getElem?_eq_none_iff.mpr (by omega)] at hd
    dsimp only at hd
    rw [if_pos (by omega), hd, if_pos rfl, Int.add_comm]
  · intro many c ie hm h0 h1'
    unfold gtV
    have hu := seg_up (codes := codes) (-many).toNat j _ hj
    rw [if_neg (by omega)] at hu
    dsimp only at hu
    have hl : ltV codes P many = _ := if_pos (by omega)
    rw [if_neg (by omega), hl, hu, if_neg (by dsimp only; omega)]
    rfl
theorem lt_one {X : Int} (hX : 1 ≤ X ∧ X ≤ 1 + (codes.length : Int)) : (ltV codes X 1).1 = if leN codes (X - 1).toNat < codes.length then 1 + ((leN codes (X - 1).toNat + 1 : Nat) : Int) else (codes.length : Int) + 1 := by
  have e : ltV codes X 1 = dnK codes (X - 1).toNat 1 := if_neg (by decide)
  rw [e]
  show (dnK codes (X - 1).toNat (0 + 1)).1 = _
  unfold dnK
  split
  · rfl
  · show 1 + (codes.length : Int) = _; omega
theorem beh_one (hL : Lns codes lls) {X : Int} (hX : 1 ≤ X ∧ X ≤ 1 + (codes.length : Int)) : (ltV codes X 1).1 = (behL lls X ++ [(codes.length : Int) + 1]).getD 0 0 := by
  rw [lt_one hX, ← segs_after 0 (Nat.zero_le _) rfl (X - 1).toNat (Nat.zero_le _) (by omega)]
  refine congrArg (fun l : List Int => (l ++ [(codes.length : Int) + 1]).getD 0 0) ?_
  unfold behL
  rw [startsL_seg hL, List.filter_map]
  refine congrArg (List.map _) (List.filter_congr fun p _ => ?_)
  show decide ((X - 1).toNat < p.1) = decide (X < 1 + (p.1 : Int))
  by_cases h : (X - 1).toNat < p.1
  · rw [decide_eq_true h, decide_eq_true (show X < 1 + (p.1 : Int) by omega)]
  · rw [decide_eq_false h, decide_eq_false (show ¬ X < 1 + (p.1 : Int) by omega)]
theorem beh_begin (hL : Lns codes lls) {ten : Int} (ht : 0 ≤ ten ∧ ten ≤ 10) : (ltV codes (clampV codes (1 + Int.fdiv (10 + (codes.length : Int) * ten) 10)) 1).1 = (behL lls (min ((codes.length : Int) + 1) (1 + Int.fdiv (10 + (codes.length : Int) * ten) 10)) ++ [(codes.length : Int) + 1]).getD 0 0 := by
  have hp : 0 ≤ (codes.length : Int) * ten := Int.mul_nonneg (Int.natCast_nonneg _) ht.1
  have hf : 0 ≤ Int.fdiv (10 + (codes.length : Int) * ten) 10 := Int.fdiv_nonneg (by omega) (by decide)
  have e : clampV codes (1 + Int.fdiv (10 + (codes.length : Int) * ten) 10) = min ((codes.length : Int) + 1) (1 + Int.fdiv (10 + (codes.length : Int) * ten) 10) := by unfold clampV; omega
  rw [← e]
  exact beh_one hL (clamp_in _ _)
theorem beh_end (hL : Lns codes lls) {ten : Int} (ht : 0 ≤ ten ∧ ten ≤ 10) : (ltV codes (clampV codes (1 + (codes.length : Int) - Int.fdiv (ten * (codes.length : Int)) 10)) 1).1 = (behL lls (max 1 ((codes.length : Int) + 1 - Int.fdiv ((codes.length : Int) * ten) 10)) ++ [(codes.length : Int) + 1]).getD 0 0 := by
  have hp : 0 ≤ (codes.length : Int) * ten := Int.mul_nonneg (Int.natCast_nonneg _) ht.1
  have hf : 0 ≤ Int.fdiv ((codes.length : Int) * ten) 10 := Int.fdiv_nonneg hp (by decide)
  rw [Int.mul_comm ten]
  have e : clampV codes (1 + (codes.length : Int) - Int.fdiv ((codes.length : Int) * ten) 10) = max 1 ((codes.length : Int) + 1 - Int.fdiv ((codes.length : Int) * ten) 10) := by unfold clampV; omega
  rw [← e]
  exact beh_one hL (clamp_in _ _)
theorem num_line (hL : Lns codes lls) (num : Int) : (ltV codes 1 (max 0 (num - 1))).1 = (if max 0 (num - 1) < (lls.length : Int) then (startsL lls).getD (max 0 (num - 1)).toNat 0 else (codes.length : Int) + 1) := by
  have hlen := lns_len hL
  have hpos := segs_pos (codes := codes) 0
  by_cases h : max 0 (num - 1) ≤ 0
  · have e : max 0 (num - 1) = 0 := by omega
    rw [e, if_pos (by omega)]
    show 1 + (((upK codes (lsN codes ((1 : Int) - 1).toNat) (-(0 : Int)).toNat).1 : Nat) : Int) = (startsL lls).getD 0 0
    rw [seg_start hL seg0_zero]
    rfl
  · have e : ltV codes 1 (max 0 (num - 1)) = dnK codes ((1 : Int) - 1).toNat (max 0 (num - 1)).toNat := if_neg h
    rw [e]
    have hd := segs_dn (codes := codes) 0 (Nat.zero_le _) rfl (max 0 (num - 1)).toNat
    show (dnK codes 0 (max 0 (num - 1)).toNat).1 = _
    rw [hd]
    by_cases hk : max 0 (num - 1) < (lls.length : Int)
    · have hlt : (max 0 (num - 1)).toNat < (segs codes 0).length := by omega
      have hq : (segs codes 0)[(max 0 (num - 1)).toNat]? = some ((segs codes 0)[(max 0 (num - 1)).toNat]'hlt) := List.getElem?_eq_getElem hlt
      rw [if_pos hk, hq, seg_start hL hq]
    · rw [if_neg hk, List.getElem?_eq_none_iff.mpr (by omega)]
      show 1 + (codes.length : Int) = _; omega
end

section
variable {codes : List Int}
theorem leN_is : ∀ (k s : Nat), (∀ i, i < k → codes.getD (s + i) 0 ≠ 10) → s + k ≤ codes.length → (s + k = codes.length ∨ codes.getD (s + k) 0 = 10) → leN codes s = s + k
  | 0, s, _, _, hs => leN_stop fun h => by
      rcases hs with e | e
      · rw [Nat.add_zero] at e; omega
      · exact h.2 e
  | k + 1, s, hf, hl, hs => by
      have h0 := hf 0 (Nat.succ_pos _)
      rw [Nat.add_zero] at h0
      rw [leN_step ⟨by omega, h0⟩, leN_is k (s + 1) (fun i hi => by rw [show s + 1 + i = s + (i + 1) from by omega]; exact hf (i + 1) (by omega)) (by omega) (by rw [show s + 1 + k = s + (k + 1) from by omega]; exact hs)]
      omega
theorem piece_get {s i : Nat} (h : s + i < codes.length) : ((codes.drop s).map Int.toNat)[i]? = some (codes.getD (s + i) 0).toNat := by
  rw [List.getElem?_map, List.getElem?_drop, List.getD_eq_getElem?_getD, List.getElem?_eq_getElem h]; rfl
theorem txt_cps (l : List Int) : (KStt.txt l).cps.toList = l.map Int.toNat := rfl
theorem piece_free {s : Nat} {x J : List Nat} (hx : 10 ∉ x) (h : x ++ J = (codes.drop s).map Int.toNat) : ∀ i, i < x.length → codes.getD (s + i) 0 ≠ 10 := by
  intro i hi e
  have hl := congrArg List.length h
  rw [List.length_append, List.length_map, List.length_drop] at hl
  have hg := piece_get (codes := codes) (s := s) (i := i) (by omega)
  rw [← h, List.getElem?_append_left hi, e] at hg
  exact hx (List.mem_of_getElem? hg)
theorem pieces_are (hg : Good codes) : ∀ (ps : List Str) (s : Nat), ps ≠ [] → s ≤ codes.length → (∀ p ∈ ps, 10 ∉ p.cps.toList) → (Str.join ⟨#[10]⟩ ps).cps.toList = (codes.drop s).map Int.toNat → ps = (segs codes s).map (lineTx codes)
  | [], _, h, _, _, _ => absurd rfl h
  | [x], s, _, hs, hf, h => by
      have h0 : x.cps.toList = (codes.drop s).map Int.toNat := h
      have hl := congrArg List.length h0
      rw [List.length_map, List.length_drop] at hl
      have e := leN_is (codes := codes) (codes.length - s) s (fun i hi => piece_free (J := []) (hf x List.mem_cons_self) (by rw [List.append_nil]; exact h0) i (by omega)) (by omega) (.inl (by omega))
      rw [segs_last (by omega), e]
      refine congrArg (fun z => [z]) ?_
      apply Str.ext'
      apply Array.toList_inj.mp
      unfold lineTx
      rw [txt_cps, h0]
      refine congrArg (List.map Int.toNat) (List.take_of_length_le ?_).symm
      rw [List.length_drop]; dsimp only; omega
  | x :: y :: rest, s, _, hs, hf, h => by
      have h0 : x.cps.toList ++ 10 :: (Str.join ⟨#[10]⟩ (y :: rest)).cps.toList = (codes.drop s).map Int.toNat := by
        rw [← h]
        show _ = (x.cps ++ #[10] ++ (Str.join ⟨#[10]⟩ (y :: rest)).cps).toList
        rw [Array.toList_append, Array.toList_append, List.append_assoc]
        rfl
      have hl := congrArg List.length h0
      rw [List.length_append, List.length_cons, List.length_map, List.length_drop] at hl
      have hk : s + x.cps.toList.length < codes.length := by omega
      have ht : codes.getD (s + x.cps.toList.length) 0 = 10 := by
        have hq := piece_get (codes := codes) (s := s) (i := x.cps.toList.length) hk
        rw [← h0, List.getElem?_append_right (Nat.le_refl _), Nat.sub_self] at hq
        have hq' : some 10 = some (codes.getD (s + x.cps.toList.length) 0).toNat := hq
        have := Option.some.inj hq'
        have := good_at hg hk
        omega
      have e := leN_is (codes := codes) x.cps.toList.length s (piece_free (hf x List.mem_cons_self) h0) (by omega) (.inr ht)
      have hd := congrArg (List.drop (x.cps.toList.length + 1)) h0
      rw [← List.map_drop, List.drop_drop, List.drop_append, List.drop_eq_nil_of_le (by omega), Nat.add_sub_cancel_left, List.nil_append, List.drop_succ_cons, List.drop_zero] at hd
      have hn := pieces_are hg (y :: rest) (s + x.cps.toList.length + 1) (List.cons_ne_nil _ _) (by omega) (fun p hp => hf p (List.mem_cons_of_mem _ hp)) (by rw [hd, Nat.add_assoc])
      rw [segs_more (by omega), e, List.map_cons, ← hn]
      refine congrArg (fun z => z :: y :: rest) ?_
      apply Str.ext'
      apply Array.toList_inj.mp
      unfold lineTx
      rw [txt_cps, List.map_take, ← h0]
      dsimp only
      rw [Nat.add_sub_cancel_left, List.take_left]
theorem lns_split (hg : Good codes) : Lns codes (Txt.split (KStt.txt codes) (Str.ofString "\n")) := by
  have en : Str.ofString "\n" = ⟨#[10]⟩ := by decide +kernel
  refine pieces_are hg _ 0 (fun h => ?_) (Nat.zero_le _) ?_ ?_
  · have := split_pos (KStt.txt codes) (Str.ofString "\n"); rw [h] at this; exact absurd this (by decide)
  · rw [en]; exact StrLaws.split_free _ _
  · rw [en, StrLaws.join_split]; rfl
theorem segs_lenle : ∀ s, s ≤ codes.length → lsN codes s = s → (segs codes s).length ≤ codes.length - s + 1 := by
  refine segs_ind (fun s h1 h2 h ih => ?_) fun s h1 h2 h => ?_
  · rw [segs_more h, List.length_cons]; have := leN_ge codes s; omega
  · rw [segs_last h, List.length_singleton]; omega
theorem lns_small (hok : CodesOk codes) {lls : List Str} (hL : Lns codes lls) : 1 ≤ lls.length ∧ lls.length ≤ 27 ∧ ∀ x ∈ lls, x.length ≤ 26 := by
  have h1 := segs_pos (codes := codes) 0
  have h2 := segs_lenle (codes := codes) 0 (Nat.zero_le _) rfl
  have h3 := lns_len hL
  have h4 := hok.2.2
  refine ⟨by omega, by omega, fun x hx => ?_⟩
  rw [hL] at hx
  obtain ⟨p, hp, rfl⟩ := List.mem_map.mp hx
  obtain ⟨j, hj⟩ := List.mem_iff_getElem?.mp hp
  obtain ⟨_, h5⟩ := seg0_le hj
  rw [lineTx_len h5]; omega
end

theorem h_0 : leN codesH 0 = 4 := leN_is 4 0 (by decide +kernel) (by decide +kernel) (by decide +kernel)
theorem h_5 : leN codesH 5 = 6 := leN_is 1 5 (by decide +kernel) (by decide +kernel) (by decide +kernel)
theorem h_7 : leN codesH 7 = 12 := leN_is 5 7 (by decide +kernel) (by decide +kernel) (by decide +kernel)
theorem h_p6 : placeOn codesH 8 3 false 6 = 7 := by
  unfold placeOn
  rw [if_neg (by decide), show lsN codesH ((6 : Int) - 1).toNat = 5 by decide +kernel, show ((6 : Int) - 1).toNat = 5 by decide +kernel, h_5, paK_step (by decide +kernel), paK_stop (by decide +kernel)]
  rfl
theorem h_p8 : placeOn codesH 8 3 false 8 = 11 := by
  unfold placeOn
  rw [if_neg (by decide), show lsN codesH ((8 : Int) - 1).toNat = 7 by decide +kernel, show ((8 : Int) - 1).toNat = 7 by decide +kernel, h_7, paK_step (by decide +kernel), paK_step (by decide +kernel), paK_step (by decide +kernel), paK_stop (by decide +kernel)]
  rfl
theorem h_p1 : placeOn codesH 8 2 false 1 = 3 := by
  unfold placeOn
  rw [if_neg (by decide), show lsN codesH ((1 : Int) - 1).toNat = 0 by decide +kernel, show ((1 : Int) - 1).toNat = 0 by decide +kernel, h_0, paK_step (by decide +kernel), paK_step (by decide +kernel), paK_stop (by decide +kernel)]
  rfl
theorem h_d0 : dwK codesH 0 1 = (5, false) := by
  show (if leN codesH 0 = codesH.length then (codesH.length, true) else dwK codesH (leN codesH 0 + 1) 0) = _
  rw [h_0]; rfl
theorem h_d5 : dwK codesH 5 1 = (7, false) := by
  show (if leN codesH 5 = codesH.length then (codesH.length, true) else dwK codesH (leN codesH 5 + 1) 0) = _
  rw [h_5]; rfl
theorem h_c : colF codesH 8 (lsN codesH ((4 : Int) - 1).toNat) (((4 : Int) - 1).toNat - lsN codesH ((4 : Int) - 1).toNat) = 3 := by decide +kernel
theorem h_e1 : gtV codesH 8 3 false 4 1 = (7, Str.ofString "") := by
  unfold gtV
  rw [if_pos (by decide), show lsN codesH ((4 : Int) - 1).toNat = 0 by decide +kernel, show (1 : Int).toNat = 1 from rfl, h_d0, if_neg (by decide)]
  show (placeOn codesH 8 3 false 6, _) = _
  rw [h_p6]
theorem h_e2 : gtV codesH 8 3 false 7 1 = (11, Str.ofString "") := by
  unfold gtV
  rw [if_pos (by decide), show lsN codesH ((7 : Int) - 1).toNat = 5 by decide +kernel, show (1 : Int).toNat = 1 from rfl, h_d5, if_neg (by decide)]
  show (placeOn codesH 8 3 false 8, _) = _
  rw [h_p8]
theorem h_l7 : ltV codesH 7 (-1) = (1, 0) := by decide +kernel
theorem h_e3 : gtV codesH 8 2 false 7 (-1) = (3, Str.ofString "") := by
  unfold gtV
  rw [if_neg (by decide), h_l7, if_pos rfl, h_p1]
set_option maxHeartbeats 2000000 in
theorem law_main {fa : Addr} {o6 o5 o4 o3 o2 o1 : Obj} (L : Addr) (ccd : Value) (h₀ : Heap) (s : Shared) (Q : Flow → Shared → Prop) (E : Value → Shared → Prop)
    (B : Below callerA h₀ [] h₀) (X : (Mine.hd.heap_1 w.params).In h₀) (T : Top Mine.view_ loose mean mg mb h₀) 
    {l : Addr} {vs : List Value} {ns : List Int} (hi : IntsAre vs ns) (hn : ns.length ≤ 63) (hl : h₀.IsList l vs.toArray) {u : Str → Option Value}
    (F : Fr h₀ L s.heap (kstB u [(Str.ofString "script", .ref l)])) (N : News h₀ L s.heap [(L + 1 + 1 + 1 + 1 + 1 + 1, o6), (L + 1 + 1 + 1 + 1 + 1, o5), (L + 1 + 1 + 1 + 1, o4), (L + 1 + 1 + 1, o3), (L + 1 + 1, o2), (L + 1, o1)])
    {c1 c2 c3 c4 c5 c6 : Option Value} (d1 : o1.data = .cell c1) (d2 : o2.data = .cell c2) (d3 : o3.data = .cell c3) (d4 : o4.data = .cell c4) (d5 : o5.data = .cell c5) (d6 : o6.data = .cell c6)
    (hE : PassesOwn (model PySem.Challenge.rw_np0031_01.row.prog w) (callerA.deeper (envOfC (Str.ofString "law") lawScope L fa ccd)) (envOfC (Str.ofString "law") lawScope L fa ccd) E)
    (hQ : ∀ (m' : Str → Option Value) h' tk', Fr h₀ L h' m' → Q (.ret (.bool true)) { s with heap := h', toks := tk' }) : wpAny (model PySem.Challenge.rw_np0031_01.row.prog w) (callerA.deeper (envOfC (Str.ofString "law") lawScope L fa ccd)) (execs lawBody (envOfC (Str.ofString "law") lawScope L fa ccd)) Q E s := by
  rw [show lawBody = [lawStmt 0, lawStmt 1, lawStmt 2, lawStmt 3, lawStmt 4, lawStmt 5, lawStmt 6, lawStmt 7, lawStmt 8, lawStmt 9, lawStmt 10, lawStmt 11, lawStmt 12, lawStmt 13, lawStmt 14, lawStmt 15, lawStmt 16, lawStmt 17, lawStmt 18, lawStmt 19, lawStmt 20] from rfl]
  refine wpAny_execs_cons (law_1 L ccd h₀ _ _ _ B X T hi hn hl F N ?_)
  clear F N
  intro d vs1 ds1 nn1 u1 h1 tk1 F1 N1 hdi hdo hd
  refine wpAny_execs_cons (law_2 L ccd h₀ _ _ _ B X T hdi hdo hd F1 N1 ?_)
  clear F1 N1
  intro lc us codes b tb n2 nn2 vs2 ds2 u2 h2 tk2 F2 N2 hi2 hok hbb hdi2 hdo2 hlc
  refine wpAny_execs_cons (law_3 L ccd h₀ _ _ _ B X T hi2 hok hd hlc F2 N2 ?_)
  clear F2 N2
  intro v g gx R ha hb hc ka kb kc u3 h3 tk3 F3 N3 hv hg hlcm hR1 hR2 hRc hgx
  refine wpAny_execs_cons (law_4 L ccd h₀ _ _ _ B X T hi2 hok hdi2 hdo2 hbb hd hgx hv hg hlcm hR1 hR2 hRc F3 N3 d1 ?_)
  clear F3 N3
  intro ll lus o1' u4 h4 tk4 dc1 F4 N4 hll hgll
  obtain ⟨lls, hll, hL⟩ : ∃ lls, StrsAre lus lls ∧ Lns codes lls := ⟨_, hll, lns_split hok.1⟩
  have hln := lns_small hok hL
  have hLg : @LT.lt Nat _ (L + 6) gx := Nat.lt_trans hd hgx
  have hLl : @LT.lt Nat _ (L + 6) ll := Nat.lt_trans hLg hgll
  refine wpAny_execs_cons (law_5 L ccd h₀ _ _ _ B X T hi2 hok hdi2 hdo2 hbb hd hgx (view_cons hv) (.tail _ hg) (.tail _ hlcm)  (List.forall_mem_cons.mpr ⟨Nat.ne_of_gt (Nat.lt_trans hgx hgll), hR1⟩)  (List.forall_mem_cons.mpr ⟨Nat.ne_of_gt hgll, hR2⟩)  (List.forall_mem_cons.mpr ⟨fun c _ hc2 e => absurd (Nat.lt_of_lt_of_le hLl (Nat.le_trans (Nat.le_of_eq e) hc2)) (Nat.lt_irrefl _), hRc⟩) hll hln dc1 (.head _) F4 N4 ?_)
  clear F4 N4
  intro ls sus u5 h5 tk5 F5 N5 hsi hR1' hR2' hRc'
  refine wpAny_execs_cons (law_6 L ccd h₀ _ _ _ B X T hi2 hok hdi2 hdo2 hbb hd hgx (view_cons (view_cons hv)) (.tail _ (.tail _ hg)) (.tail _ (.tail _ hlcm)) hR1' hR2' hRc' hll hln dc1 (.tail _ (.head _)) hsi (.head _) F5 N5 d2 d3 ?_)
  clear F5 N5
  intro P tp f vs6 ds6 nn6 o2' o3' u6 h6 tk6 dc2 dc3 F6 N6 hP1 hP2 hdi2 hdo2
  refine wpAny_execs_cons (law_loop L ccd h₀ _ _ _ B X T hi2 hok hdi2 hdo2 hbb hd hgx (view_cons (view_cons hv)) (.tail _ (.tail _ hg)) (.tail _ (.tail _ hlcm)) hR1' hR2' hRc' hll hln dc1 (.tail _ (.head _)) hsi (.head _) dc2 ⟨hP1, hP2⟩ (fun P hP => line_at hL hok.1 hP) (.inl dc3) ⟨_, d4⟩ hE F6 N6 ?_)
  clear F6 N6 hP1 hP2 dc2
  intro R' P7 tp7 vs7 ds7 nn7 o4' o3'' o2'' col7 ie7 u7 h7 tk7 F7 N7 dc2 hP hdi2 hdo2 hs hR1 hR2 hRc
  have hv := ViewAt.mono (view_cons (view_cons hv)) hs
  have hlm := hs _ (.tail _ (.head _))
  have hsm := hs _ (.head _)
  have hlcm := hs _ (.tail _ (.tail _ hlcm))
  have hg := hs _ (.tail _ (.tail _ hg))
  refine wpAny_execs_cons (law_7 L ccd h₀ _ _ _ B X T hi2 hok hdi2 hdo2 hbb hd hgx hv hg hlcm hR1 hR2 hRc hll hln dc1 hlm hsi hsm dc2 hP F7 N7 d5 ?_)
  clear F7 N7
  intro num tn ten tt vs8 ds8 nn8 o5' u8 h8 tk8 dc5 F8 N8 hn0 hn7 ht0 ht10 hdi2 hdo2
  refine wpAny_execs_cons (law_8 L ccd h₀ _ _ _ B X T hi2 hok hdi2 hdo2 hbb hd hgx hv hg hlcm hR1 hR2 hRc hll hln dc1 hlm hsi hsm dc2 hP ⟨hn0, hn7⟩ ⟨ht0, ht10⟩ dc5 F8 N8 d6 ?_)
  clear F8 N8
  intro tz o6' h9 tk9 dc6 F9 N9
  refine wpAny_execs_cons (law_9 L ccd h₀ _ _ _ B X T hi2 hok hdi2 hdo2 hbb hd hgx hv hg hlcm hR1 hR2 hRc hll hln dc1 hlm hsi hsm dc2 hP ⟨hn0, hn7⟩ ⟨ht0, ht10⟩ dc5 dc6 F9 N9 ?_)
  clear F9 N9
  intro lb bus u10 h10 tk10 F10 N10 hbus hlb hlb2
  refine wpAny_execs_cons (law_10 L ccd h₀ _ _ _ B X T hi2 hok hdi2 hdo2 hbb hd hgx hv hg hlcm hR1 hR2 hRc hll hln dc1 hlm hsi hsm dc2 hP ⟨hn0, hn7⟩ ⟨ht0, ht10⟩ dc5 dc6 hbus hlb hlb2 F10 N10 (beh_begin hL ⟨ht0, ht10⟩) ?_)
  clear F10 N10 hbus hlb hlb2
  intro u11 h11 tk11 F11 N11
  refine wpAny_execs_cons (law_11 L ccd h₀ _ _ _ B X T hi2 hok hdi2 hdo2 hbb hd hgx hv hg hlcm hR1 hR2 hRc hll hln dc1 hlm hsi hsm dc2 hP ⟨hn0, hn7⟩ ⟨ht0, ht10⟩ dc5 dc6 F11 N11 ?_)
  clear F11 N11
  intro lb bus u12 h12 tk12 F12 N12 hbus hlb hlb2
  refine wpAny_execs_cons (law_12 L ccd h₀ _ _ _ B X T hi2 hok hdi2 hdo2 hbb hd hgx hv hg hlcm hR1 hR2 hRc hll hln dc1 hlm hsi hsm dc2 hP ⟨hn0, hn7⟩ ⟨ht0, ht10⟩ dc5 dc6 hbus hlb hlb2 F12 N12 (beh_end hL ⟨ht0, ht10⟩) ?_)
  clear F12 N12 hbus hlb hlb2
  intro u13 h13 tk13 F13 N13
  refine wpAny_execs_cons (law_13 L ccd h₀ _ _ _ B X T hi2 hok hdi2 hdo2 hbb hd hgx hv hg hlcm hR1 hR2 hRc hll hln dc1 hlm hsi hsm dc2 hP ⟨hn0, hn7⟩ ⟨ht0, ht10⟩ dc5 dc6 F13 N13 ?_)
  clear F13 N13
  intro V tV u14 h14 tk14 F14 N14 hV
  refine wpAny_execs_cons (law_14 L ccd h₀ _ _ _ B X T hi2 hok hdi2 hdo2 hbb hd hgx hv hg hlcm hR1 hR2 hRc hll hln dc1 hlm hsi hsm dc2 hP ⟨hn0, hn7⟩ ⟨ht0, ht10⟩ dc5 dc6 hV (num_line hL num) F14 N14 ?_)
  clear F14 N14
  intro u15 h15 tk15 F15 N15
  refine wpAny_execs_cons (law_15 (o6 := o6) (o5 := o5) (o4 := o4) (o3 := o3) (o2 := o2) (o1 := o1) L ccd h₀ _ _ _ B X T (.tail _ (.tail _ (.tail _ (.tail _ (.tail _ (.tail _ (.tail _ hg))))))) (List.forall_mem_cons.mpr ⟨Nat.ne_of_lt hgx, List.forall_mem_cons.mpr ⟨Nat.ne_of_lt (Nat.lt_of_le_of_lt (show @LE.le Nat _ (L + 6) (L + 6) by omega) hLg), List.forall_mem_cons.mpr ⟨Nat.ne_of_lt (Nat.lt_of_le_of_lt (show @LE.le Nat _ (L + 5) (L + 6) by omega) hLg), List.forall_mem_cons.mpr ⟨Nat.ne_of_lt (Nat.lt_of_le_of_lt (show @LE.le Nat _ (L + 4) (L + 6) by omega) hLg), List.forall_mem_cons.mpr ⟨Nat.ne_of_lt (Nat.lt_of_le_of_lt (show @LE.le Nat _ (L + 3) (L + 6) by omega) hLg), List.forall_mem_cons.mpr ⟨Nat.ne_of_lt (Nat.lt_of_le_of_lt (show @LE.le Nat _ (L + 2) (L + 6) by omega) hLg), List.forall_mem_cons.mpr ⟨Nat.ne_of_lt (Nat.lt_of_le_of_lt (show @LE.le Nat _ (L + 1) (L + 6) by omega) hLg), hR2⟩⟩⟩⟩⟩⟩⟩) (fr_self _ F15 (by kst_all)) N15 ?_)
  clear F15 N15
  intro hn' R2 u16 h16 tk16 F16 N16 hvh hg2 hRg
  refine wpAny_execs_cons (law_16 (o6 := o6) (o5 := o5) (o4 := o4) (o3 := o3) (o2 := o2) (o1 := o1) L ccd h₀ _ _ _ B X T hg2 hRg hvh F16 N16 ?_)
  clear F16 N16
  intro tc h17 tk17 F17 N17
  refine wpAny_execs_cons (law_17 (o6 := o6) (o5 := o5) (o4 := o4) (o3 := o3) (o2 := o2) (o1 := o1) L ccd h₀ _ _ _ B X T hg2 hRg hvh (by rw [h_c]; exact h_e1) (by rw [h_c]; exact h_e2) F17 N17 ?_)
  clear F17 N17
  intro st t1 t2 a1 a2 a3 a4 u18 h18 tk18 F18 N18 q1 q2 q3 _
  refine wpAny_execs_cons (law_18 (o6 := o6) (o5 := o5) (o4 := o4) (o3 := o3) (o2 := o2) (o1 := o1) L ccd h₀ _ _ _ B X T hg2 hRg hvh q1 q2 q3 F18 N18 ?_)
  clear F18 N18
  intro h19 tk19 F19 N19
  refine wpAny_execs_cons (law_19 (o6 := o6) (o5 := o5) (o4 := o4) (o3 := o3) (o2 := o2) (o1 := o1) L ccd h₀ _ _ _ B X T hg2 hRg hvh q1 q2 q3 F19 N19 ?_)
  clear F19 N19
  intro t9 h20 tk20 F20 N20
  refine wpAny_execs_cons (law_20 (o6 := o6) (o5 := o5) (o4 := o4) (o3 := o3) (o2 := o2) (o1 := o1) L ccd h₀ _ _ _ B X T hg2 hRg hvh q1 q2 q3 h_e3 F20 N20 ?_)
  intro h21 tk21 F21
  exact hQ _ _ _ F21
end Mine
local macro_rules | `(tactic| k_qdec) => `(tactic| decide +kernel)
set_option maxHeartbeats 8000000 in
theorem PySem.Challenge.cw_np0031_01_holds : PySem.Challenge.rw_np0031_01.Holds := by
  exact Mine.hd (by
    k_with_none
    w_top off
    k_go0
    all_goals try k_fold
    (rename Fr _ _ _ _ => F9); (rename News _ _ _ _ => N9)
    refine Mine.law_main _ _ _ _ _ _ (by assumption) (by assumption) (by assumption) (by assumption) (by omega) (by assumption) (Mine.fr_self [(Str.ofString "script", .ref _)] F9 ?kk) N9 (by assumption) (by assumption) (by assumption) (by assumption) (by assumption) (by assumption) ?hE ?_
    case kk => kst_all
    case hE => passes_own
    intro m9 h9 tk9 F10
    k_end
    kc_close)
