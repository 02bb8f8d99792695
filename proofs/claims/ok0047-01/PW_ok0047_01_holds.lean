import PyProof.Rows.All
import Wide.All
import OpenK.AllK
import Wide.FinOn
import Lean
import PySem.Challenge.RW_ok0047_01
open PySem PySem.W PyProof.Rows PySem.Calls PySem.Spec
set_option maxRecDepth 100000
set_option Elab.async false
set_option linter.all false
set_option maxHeartbeats 8000000
set_option rowWalk.seconds 0
namespace Mine
local macro_rules | `(tactic| walk_at $s:str) => do
  let t := Lean.Syntax.mkStrLit ("my " ++ s.getString)
  `(tactic| k_extra $t)
local macro_rules | `(tactic| k_lt $h:ident) => `(tactic| (replace $h := allLt_of $h; dsimp only [AllLt] at $h:ident))
local macro_rules | `(tactic| k_all) => `(tactic| walk_at "k_all")
local macro_rules | `(tactic| k_inst) => `(tactic| walk_at "k_inst")
local macro_rules | `(tactic| k_ne) => `(tactic| walk_at "k_ne")
local macro_rules | `(tactic| k_room) => `(tactic| walk_at "k_room")
local macro_rules | `(tactic| k_upd) => `(tactic| walk_at "k_upd")
local macro_rules | `(tactic| k_updF) => `(tactic| walk_at "k_updF")
set_option linter.all false
section

theorem words1 : True := by
  k_with_none
  exact True.intro
/-- the parts of a text, by their places -/
def nth (l : List Stmt) (i : Nat) : Stmt := l.getD i (.Pass ⟨0, 0, 0, 0⟩)
def fArgs : Stmt → Arguments
  | .FunctionDef _ a _ _ _ _ _ _ _ _ => a
  | _ => ⟨[], [], none, [], [], none, []⟩
def fBody : Stmt → List Stmt
  | .FunctionDef _ _ b _ _ _ _ _ _ _ => b
  | _ => []
def fScope (d : Scope) : Stmt → Scope
  | .FunctionDef _ _ _ _ _ _ s _ _ _ => s
  | _ => d
def cBody : Stmt → List Stmt
  | .ClassDef _ _ _ b _ _ _ _ _ _ _ => b
  | _ => []
/-- a value in the form that an equation gives it -/
def pick {α : Type} (K : α) (_ : ∃ a : α, a = K) : α := K
noncomputable def pmain : Module := PySem.Challenge.rw_ok0047_01.row.toRowW.prog.main
noncomputable def pbody : List Stmt := pmain.body
noncomputable def pA0 : Arguments := by
  refine' pick _ ⟨fArgs (nth pbody 0), ?h⟩
  case h => (conv => lhs; whnf)
noncomputable def pB0 : List Stmt := by
  refine' pick _ ⟨fBody (nth pbody 0), ?h⟩
  case h => (conv => lhs; whnf)
noncomputable def pS0 : Scope := by
  refine' pick _ ⟨fScope pmain.scope (nth pbody 0), ?h⟩
  case h => (conv => lhs; whnf)
noncomputable def pA1 : Arguments := by
  refine' pick _ ⟨fArgs (nth (cBody (nth pbody 2)) 0), ?h⟩
  case h => (conv => lhs; whnf)
noncomputable def pB1 : List Stmt := by
  refine' pick _ ⟨fBody (nth (cBody (nth pbody 2)) 0), ?h⟩
  case h => (conv => lhs; whnf)
noncomputable def pS1 : Scope := by
  refine' pick _ ⟨fScope pmain.scope (nth (cBody (nth pbody 2)) 0), ?h⟩
  case h => (conv => lhs; whnf)
noncomputable def pA2 : Arguments := by
  refine' pick _ ⟨fArgs (nth (cBody (nth pbody 5)) 0), ?h⟩
  case h => (conv => lhs; whnf)
noncomputable def pB2 : List Stmt := by
  refine' pick _ ⟨fBody (nth (cBody (nth pbody 5)) 0), ?h⟩
  case h => (conv => lhs; whnf)
noncomputable def pS2 : Scope := by
  refine' pick _ ⟨fScope pmain.scope (nth (cBody (nth pbody 5)) 0), ?h⟩
  case h => (conv => lhs; whnf)
noncomputable def pA3 : Arguments := by
  refine' pick _ ⟨fArgs (nth pbody 6), ?h⟩
  case h => (conv => lhs; whnf)
noncomputable def pB3 : List Stmt := by
  refine' pick _ ⟨fBody (nth pbody 6), ?h⟩
  case h => (conv => lhs; whnf)
noncomputable def pS3 : Scope := by
  refine' pick _ ⟨fScope pmain.scope (nth pbody 6), ?h⟩
  case h => (conv => lhs; whnf)
noncomputable def pA4 : Arguments := by
  refine' pick _ ⟨fArgs (nth pbody 7), ?h⟩
  case h => (conv => lhs; whnf)
noncomputable def pB4 : List Stmt := by
  refine' pick _ ⟨fBody (nth pbody 7), ?h⟩
  case h => (conv => lhs; whnf)
noncomputable def pS4 : Scope := by
  refine' pick _ ⟨fScope pmain.scope (nth pbody 7), ?h⟩
  case h => (conv => lhs; whnf)
noncomputable def pA5 : Arguments := by
  refine' pick _ ⟨fArgs (nth (cBody (nth pbody 9)) 0), ?h⟩
  case h => (conv => lhs; whnf)
noncomputable def pB5 : List Stmt := by
  refine' pick _ ⟨fBody (nth (cBody (nth pbody 9)) 0), ?h⟩
  case h => (conv => lhs; whnf)
noncomputable def pS5 : Scope := by
  refine' pick _ ⟨fScope pmain.scope (nth (cBody (nth pbody 9)) 0), ?h⟩
  case h => (conv => lhs; whnf)
noncomputable def pA6 : Arguments := by
  refine' pick _ ⟨fArgs (nth (cBody (nth pbody 9)) 1), ?h⟩
  case h => (conv => lhs; whnf)
noncomputable def pB6 : List Stmt := by
  refine' pick _ ⟨fBody (nth (cBody (nth pbody 9)) 1), ?h⟩
  case h => (conv => lhs; whnf)
noncomputable def pS6 : Scope := by
  refine' pick _ ⟨fScope pmain.scope (nth (cBody (nth pbody 9)) 1), ?h⟩
  case h => (conv => lhs; whnf)
noncomputable def pA7 : Arguments := by
  refine' pick _ ⟨fArgs (nth (cBody (nth pbody 9)) 2), ?h⟩
  case h => (conv => lhs; whnf)
noncomputable def pB7 : List Stmt := by
  refine' pick _ ⟨fBody (nth (cBody (nth pbody 9)) 2), ?h⟩
  case h => (conv => lhs; whnf)
noncomputable def pS7 : Scope := by
  refine' pick _ ⟨fScope pmain.scope (nth (cBody (nth pbody 9)) 2), ?h⟩
  case h => (conv => lhs; whnf)
noncomputable def pA8 : Arguments := by
  refine' pick _ ⟨fArgs (nth (cBody (nth pbody 10)) 0), ?h⟩
  case h => (conv => lhs; whnf)
noncomputable def pB8 : List Stmt := by
  refine' pick _ ⟨fBody (nth (cBody (nth pbody 10)) 0), ?h⟩
  case h => (conv => lhs; whnf)
noncomputable def pS8 : Scope := by
  refine' pick _ ⟨fScope pmain.scope (nth (cBody (nth pbody 10)) 0), ?h⟩
  case h => (conv => lhs; whnf)
noncomputable def pA9 : Arguments := by
  refine' pick _ ⟨fArgs (nth (cBody (nth pbody 10)) 1), ?h⟩
  case h => (conv => lhs; whnf)
noncomputable def pB9 : List Stmt := by
  refine' pick _ ⟨fBody (nth (cBody (nth pbody 10)) 1), ?h⟩
  case h => (conv => lhs; whnf)
noncomputable def pA10 : Arguments := by
  refine' pick _ ⟨fArgs (nth (cBody (nth pbody 10)) 2), ?h⟩
  case h => (conv => lhs; whnf)
noncomputable def pB10 : List Stmt := by
  refine' pick _ ⟨fBody (nth (cBody (nth pbody 10)) 2), ?h⟩
  case h => (conv => lhs; whnf)
noncomputable def pS10 : Scope := by
  refine' pick _ ⟨fScope pmain.scope (nth (cBody (nth pbody 10)) 2), ?h⟩
  case h => (conv => lhs; whnf)
noncomputable def pA11 : Arguments := by
  refine' pick _ ⟨fArgs (nth (cBody (nth pbody 10)) 3), ?h⟩
  case h => (conv => lhs; whnf)
noncomputable def pB11 : List Stmt := by
  refine' pick _ ⟨fBody (nth (cBody (nth pbody 10)) 3), ?h⟩
  case h => (conv => lhs; whnf)
noncomputable def pS11 : Scope := by
  refine' pick _ ⟨fScope pmain.scope (nth (cBody (nth pbody 10)) 3), ?h⟩
  case h => (conv => lhs; whnf)
noncomputable def pA12 : Arguments := by
  refine' pick _ ⟨fArgs (nth pbody 11), ?h⟩
  case h => (conv => lhs; whnf)
noncomputable def pB12 : List Stmt := by
  refine' pick _ ⟨fBody (nth pbody 11), ?h⟩
  case h => (conv => lhs; whnf)
noncomputable def pS12 : Scope := by
  refine' pick _ ⟨fScope pmain.scope (nth pbody 11), ?h⟩
  case h => (conv => lhs; whnf)
noncomputable def pA13 : Arguments := by
  refine' pick _ ⟨fArgs (nth pbody 12), ?h⟩
  case h => (conv => lhs; whnf)
noncomputable def pB13 : List Stmt := by
  refine' pick _ ⟨fBody (nth pbody 12), ?h⟩
  case h => (conv => lhs; whnf)
noncomputable def pS13 : Scope := by
  refine' pick _ ⟨fScope pmain.scope (nth pbody 12), ?h⟩
  case h => (conv => lhs; whnf)
noncomputable def pA14 : Arguments := by
  refine' pick _ ⟨fArgs (nth pbody 13), ?h⟩
  case h => (conv => lhs; whnf)
noncomputable def pB14 : List Stmt := by
  refine' pick _ ⟨fBody (nth pbody 13), ?h⟩
  case h => (conv => lhs; whnf)
noncomputable def pS14 : Scope := by
  refine' pick _ ⟨fScope pmain.scope (nth pbody 13), ?h⟩
  case h => (conv => lhs; whnf)
noncomputable def pA15 : Arguments := by
  refine' pick _ ⟨fArgs (nth pbody 14), ?h⟩
  case h => (conv => lhs; whnf)
noncomputable def pB15 : List Stmt := by
  refine' pick _ ⟨fBody (nth pbody 14), ?h⟩
  case h => (conv => lhs; whnf)
noncomputable def pS15 : Scope := by
  refine' pick _ ⟨fScope pmain.scope (nth pbody 14), ?h⟩
  case h => (conv => lhs; whnf)
noncomputable def pA16 : Arguments := by
  refine' pick _ ⟨fArgs (nth pbody 15), ?h⟩
  case h => (conv => lhs; whnf)
noncomputable def pB16 : List Stmt := by
  refine' pick _ ⟨fBody (nth pbody 15), ?h⟩
  case h => (conv => lhs; whnf)
noncomputable def pS16 : Scope := by
  refine' pick _ ⟨fScope pmain.scope (nth pbody 15), ?h⟩
  case h => (conv => lhs; whnf)
noncomputable def pA17 : Arguments := by
  refine' pick _ ⟨fArgs (nth pbody 16), ?h⟩
  case h => (conv => lhs; whnf)
noncomputable def pB17 : List Stmt := by
  refine' pick _ ⟨fBody (nth pbody 16), ?h⟩
  case h => (conv => lhs; whnf)
noncomputable def pS17 : Scope := by
  refine' pick _ ⟨fScope pmain.scope (nth pbody 16), ?h⟩
  case h => (conv => lhs; whnf)
noncomputable def pA18 : Arguments := by
  refine' pick _ ⟨fArgs (nth pbody 17), ?h⟩
  case h => (conv => lhs; whnf)
noncomputable def pB18 : List Stmt := by
  refine' pick _ ⟨fBody (nth pbody 17), ?h⟩
  case h => (conv => lhs; whnf)
noncomputable def pS18 : Scope := by
  refine' pick _ ⟨fScope pmain.scope (nth pbody 17), ?h⟩
  case h => (conv => lhs; whnf)
noncomputable def pA19 : Arguments := by
  refine' pick _ ⟨fArgs (nth pbody 18), ?h⟩
  case h => (conv => lhs; whnf)
noncomputable def pB19 : List Stmt := by
  refine' pick _ ⟨fBody (nth pbody 18), ?h⟩
  case h => (conv => lhs; whnf)
noncomputable def pS19 : Scope := by
  refine' pick _ ⟨fScope pmain.scope (nth pbody 18), ?h⟩
  case h => (conv => lhs; whnf)
noncomputable def pA20 : Arguments := by
  refine' pick _ ⟨fArgs (nth pbody 20), ?h⟩
  case h => (conv => lhs; whnf)
noncomputable def pB20 : List Stmt := by
  refine' pick _ ⟨fBody (nth pbody 20), ?h⟩
  case h => (conv => lhs; whnf)
noncomputable def pS20 : Scope := by
  refine' pick _ ⟨fScope pmain.scope (nth pbody 20), ?h⟩
  case h => (conv => lhs; whnf)
noncomputable def pA21 : Arguments := by
  refine' pick _ ⟨fArgs (nth pbody 21), ?h⟩
  case h => (conv => lhs; whnf)
noncomputable def pB21 : List Stmt := by
  refine' pick _ ⟨fBody (nth pbody 21), ?h⟩
  case h => (conv => lhs; whnf)
noncomputable def pS21 : Scope := by
  refine' pick _ ⟨fScope pmain.scope (nth pbody 21), ?h⟩
  case h => (conv => lhs; whnf)
noncomputable def pA22 : Arguments := by
  refine' pick _ ⟨fArgs (nth pbody 22), ?h⟩
  case h => (conv => lhs; whnf)
noncomputable def pB22 : List Stmt := by
  refine' pick _ ⟨fBody (nth pbody 22), ?h⟩
  case h => (conv => lhs; whnf)
noncomputable def pS22 : Scope := by
  refine' pick _ ⟨fScope pmain.scope (nth pbody 22), ?h⟩
  case h => (conv => lhs; whnf)
noncomputable def pA23 : Arguments := by
  refine' pick _ ⟨fArgs (nth pbody 23), ?h⟩
  case h => (conv => lhs; whnf)
noncomputable def pB23 : List Stmt := by
  refine' pick _ ⟨fBody (nth pbody 23), ?h⟩
  case h => (conv => lhs; whnf)
noncomputable def pS23 : Scope := by
  refine' pick _ ⟨fScope pmain.scope (nth pbody 23), ?h⟩
  case h => (conv => lhs; whnf)
noncomputable def pA24 : Arguments := by
  refine' pick _ ⟨fArgs (nth pbody 24), ?h⟩
  case h => (conv => lhs; whnf)
noncomputable def pB24 : List Stmt := by
  refine' pick _ ⟨fBody (nth pbody 24), ?h⟩
  case h => (conv => lhs; whnf)
noncomputable def pS24 : Scope := by
  refine' pick _ ⟨fScope pmain.scope (nth pbody 24), ?h⟩
  case h => (conv => lhs; whnf)
noncomputable def pA25 : Arguments := by
  refine' pick _ ⟨fArgs (nth pbody 25), ?h⟩
  case h => (conv => lhs; whnf)
noncomputable def pB25 : List Stmt := by
  refine' pick _ ⟨fBody (nth pbody 25), ?h⟩
  case h => (conv => lhs; whnf)
noncomputable def pS25 : Scope := by
  refine' pick _ ⟨fScope pmain.scope (nth pbody 25), ?h⟩
  case h => (conv => lhs; whnf)
noncomputable def pA26 : Arguments := by
  refine' pick _ ⟨fArgs (nth pbody 26), ?h⟩
  case h => (conv => lhs; whnf)
noncomputable def pB26 : List Stmt := by
  refine' pick _ ⟨fBody (nth pbody 26), ?h⟩
  case h => (conv => lhs; whnf)
noncomputable def pS26 : Scope := by
  refine' pick _ ⟨fScope pmain.scope (nth pbody 26), ?h⟩
  case h => (conv => lhs; whnf)
noncomputable def pA27 : Arguments := by
  refine' pick _ ⟨fArgs (nth pbody 27), ?h⟩
  case h => (conv => lhs; whnf)
noncomputable def pB27 : List Stmt := by
  refine' pick _ ⟨fBody (nth pbody 27), ?h⟩
  case h => (conv => lhs; whnf)
noncomputable def pS27 : Scope := by
  refine' pick _ ⟨fScope pmain.scope (nth pbody 27), ?h⟩
  case h => (conv => lhs; whnf)
noncomputable def vC0 : Stmt := by
  refine' pick _ ⟨nth pbody 0, ?h⟩
  case h => (conv => lhs; whnf)
noncomputable def vC2 : Stmt := by
  refine' pick _ ⟨nth pbody 2, ?h⟩
  case h => (conv => lhs; whnf)
noncomputable def vC3 : Stmt := by
  refine' pick _ ⟨nth pbody 3, ?h⟩
  case h => (conv => lhs; whnf)
noncomputable def vC4 : Stmt := by
  refine' pick _ ⟨nth pbody 4, ?h⟩
  case h => (conv => lhs; whnf)
noncomputable def vC5 : Stmt := by
  refine' pick _ ⟨nth pbody 5, ?h⟩
  case h => (conv => lhs; whnf)
noncomputable def vC7 : Stmt := by
  refine' pick _ ⟨nth pbody 7, ?h⟩
  case h => (conv => lhs; whnf)
noncomputable def vC9 : Stmt := by
  refine' pick _ ⟨nth pbody 9, ?h⟩
  case h => (conv => lhs; whnf)
noncomputable def vC10 : Stmt := by
  refine' pick _ ⟨nth pbody 10, ?h⟩
  case h => (conv => lhs; whnf)
noncomputable def vC11 : Stmt := by
  refine' pick _ ⟨nth pbody 11, ?h⟩
  case h => (conv => lhs; whnf)
noncomputable def vC13 : Stmt := by
  refine' pick _ ⟨nth pbody 13, ?h⟩
  case h => (conv => lhs; whnf)
noncomputable def vC14 : Stmt := by
  refine' pick _ ⟨nth pbody 14, ?h⟩
  case h => (conv => lhs; whnf)
noncomputable def vC15 : Stmt := by
  refine' pick _ ⟨nth pbody 15, ?h⟩
  case h => (conv => lhs; whnf)
noncomputable def vC16 : Stmt := by
  refine' pick _ ⟨nth pbody 16, ?h⟩
  case h => (conv => lhs; whnf)
noncomputable def vC17 : Stmt := by
  refine' pick _ ⟨nth pbody 17, ?h⟩
  case h => (conv => lhs; whnf)
noncomputable def vC18 : Stmt := by
  refine' pick _ ⟨nth pbody 18, ?h⟩
  case h => (conv => lhs; whnf)
noncomputable def vC20 : Stmt := by
  refine' pick _ ⟨nth pbody 20, ?h⟩
  case h => (conv => lhs; whnf)
noncomputable def vC21 : Stmt := by
  refine' pick _ ⟨nth pbody 21, ?h⟩
  case h => (conv => lhs; whnf)
noncomputable def vC22 : Stmt := by
  refine' pick _ ⟨nth pbody 22, ?h⟩
  case h => (conv => lhs; whnf)
noncomputable def vC23 : Stmt := by
  refine' pick _ ⟨nth pbody 23, ?h⟩
  case h => (conv => lhs; whnf)
noncomputable def vC24 : Stmt := by
  refine' pick _ ⟨nth pbody 24, ?h⟩
  case h => (conv => lhs; whnf)
noncomputable def vC25 : Stmt := by
  refine' pick _ ⟨nth pbody 25, ?h⟩
  case h => (conv => lhs; whnf)
noncomputable def vC26 : Stmt := by
  refine' pick _ ⟨nth pbody 26, ?h⟩
  case h => (conv => lhs; whnf)
noncomputable def vC27 : Stmt := by
  refine' pick _ ⟨nth pbody 27, ?h⟩
  case h => (conv => lhs; whnf)
noncomputable def vS : Scope := by
  refine' pick _ ⟨pmain.scope, ?h⟩
  case h => (conv => lhs; whnf)
noncomputable def vG : Given := by
  refine' pick _ ⟨PySem.Challenge.rw_ok0047_01.row.toRowW.prog.given, ?h⟩
  case h => (conv => lhs; whnf)
/-- the view: the statements of the text that the law reaches -/
noncomputable def hd47.view_39 : Program := by
  refine' pick _ ⟨Program.mk (Module.mk [vC0, vC2, vC3, vC4, vC5, vC7, vC9, vC10, vC11, vC13, vC14, vC15, vC16, vC17, vC18, vC20, vC21, vC22, vC23, vC24, vC25, vC26, vC27] vS false (Str.ofString "/claim/cut.py") []) [] [] [] [] vG, ?h⟩
  case h => (conv => lhs; delta vC0 vC2 vC3 vC4 vC5 vC7 vC9 vC10 vC11 vC13 vC14 vC15 vC16 vC17 vC18 vC20 vC21 vC22 vC23 vC24 vC25 vC26 vC27 vS vG; delta pick)
/-- the new objects of a piece, handed to k -/
noncomputable def new_pre (β : Type) (k : Obj → Obj → Obj → Obj → β) (P : Params) : β := k
  (Obj.mk (Value.type "tuple") none (Data.seq (List.toArray []) (0 : Nat)) (List.toArray []))
  (Obj.mk .none none (Data.fields (List.toArray [])) (List.toArray []))
  (Obj.mk (Value.type "code") none (Data.fields (List.toArray ((Value.str (Str.ofString "<module>") (182 : Nat)) :: (Value.str (Str.ofString "<module>") (183 : Nat)) :: (Value.str (Str.ofString "/claim/cut.py") (184 : Nat)) :: (Value.int (1 : Int) (0 : Nat)) :: (Value.int (0 : Int) (0 : Nat)) :: (Value.int (0 : Int) (0 : Nat)) :: (Value.int (0 : Int) (0 : Nat)) :: (Value.int (0 : Int) (0 : Nat)) :: (Value.ref (11 : Nat)) :: (Value.bool Bool.false) :: (Value.int (181 : Int) (0 : Nat)) :: (Value.ref (12 : Nat)) :: .none :: .none :: .none :: .none :: (Value.int (185 : Int) (0 : Nat)) :: (Value.int (1 : Int) (0 : Nat)) :: (Value.str (Str.ofString "/claim/cut.py") (186 : Nat)) :: []))) (List.toArray []))
  (Obj.mk (Value.type "frame") none .plain (List.toArray ((some (Value.ref (13 : Nat))) :: (some (Value.ref (3 : Nat))) :: (some (Value.ref (3 : Nat))) :: none :: (some (Value.str (Str.ofString "__main__") (164 : Nat))) :: none :: (some (Value.ref (0 : Nat))) :: [])))
/-- the new objects of a piece, handed to k -/
noncomputable def new_4 (β : Type) (k : Obj → Obj → Obj → Obj → Obj → Obj → Obj → Obj → Obj → Obj → Obj → Obj → Obj → Obj → Obj → Obj → Obj → Obj → Obj → Obj → Obj → Obj → Obj → Obj → Obj → Obj → Obj → Obj → Obj → Obj → Obj → Obj → Obj → β) (P : Params) : β := k
  (Obj.mk (Value.type "dict") none (Data.dict (List.toArray ((DictEntry.mk (PyData.keyHash P (Str.ofString "__name__")) (Value.str (Str.ofString "__name__") (165 : Nat)) (Value.str (Str.ofString "emacs.objects") (194 : Nat))) :: (DictEntry.mk (PyData.keyHash P (Str.ofString "__doc__")) (Value.str (Str.ofString "__doc__") (166 : Nat)) .none) :: (DictEntry.mk (PyData.keyHash P (Str.ofString "__package__")) (Value.str (Str.ofString "__package__") (167 : Nat)) .none) :: (DictEntry.mk (PyData.keyHash P (Str.ofString "__loader__")) (Value.str (Str.ofString "__loader__") (168 : Nat)) (Value.builtin "__main__.__loader__#opaque")) :: (DictEntry.mk (PyData.keyHash P (Str.ofString "__spec__")) (Value.str (Str.ofString "__spec__") (169 : Nat)) .none) :: (DictEntry.mk (PyData.keyHash P (Str.ofString "__annotations__")) (Value.str (Str.ofString "__annotations__") (170 : Nat)) (Value.ref (6 : Nat))) :: (DictEntry.mk (PyData.keyHash P (Str.ofString "__builtins__")) (Value.str (Str.ofString "__builtins__") (171 : Nat)) (Value.ref (4 : Nat))) :: (DictEntry.mk (PyData.keyHash P (Str.ofString "__file__")) (Value.str (Str.ofString "__file__") (173 : Nat)) (Value.str (Str.ofString "/claim/cut.py") (172 : Nat))) :: (DictEntry.mk (PyData.keyHash P (Str.ofString "__cached__")) (Value.str (Str.ofString "__cached__") (174 : Nat)) .none) :: (DictEntry.mk (PyData.keyHash P (Str.ofString "_wall")) (Value.str (Str.ofString "_wall") (193 : Nat)) (Value.ref (21 : Nat))) :: (DictEntry.mk (PyData.keyHash P (Str.ofString "Symbol")) (Value.str (Str.ofString "Symbol") (226 : Nat)) (Value.ref (38 : Nat))) :: (DictEntry.mk (PyData.keyHash P (Str.ofString "NIL")) (Value.str (Str.ofString "NIL") (236 : Nat)) (Value.ref (44 : Nat))) :: [])) (12 : Nat)) (List.toArray []))
  (Obj.mk .none none (Data.fields (List.toArray [(Value.int (1 : Int) (0 : Nat)), (Value.int (0 : Int) (0 : Nat)), (Value.ref (20 : Nat)), (Value.int (5 : Int) (0 : Nat)), (Value.int (0 : Int) (0 : Nat)), (Value.ref (27 : Nat))])) (List.toArray []))
  (Obj.mk (Value.type "tuple") none (Data.seq (List.toArray []) (0 : Nat)) (List.toArray []))
  (Obj.mk .none none (Data.fields (List.toArray [])) (List.toArray []))
  (Obj.mk (Value.type "tuple") none (Data.seq (List.toArray [(Value.str (Str.ofString "k") (190 : Nat))]) (0 : Nat)) (List.toArray []))
  (Obj.mk (Value.type "tuple") none (Data.seq (List.toArray []) (0 : Nat)) (List.toArray []))
  (Obj.mk .none none (Data.func (FuncData.mk (Str.ofString "_wall") (Str.ofString "_wall") pA0 (FuncBody.stmts pB0) pS0 (0 : Nat) [] .none .none .none .none none .none .none (0 : Nat))) (List.toArray []))
  (Obj.mk (Value.type "code") none (Data.fields (List.toArray ((Value.str (Str.ofString "_wall") (187 : Nat)) :: (Value.str (Str.ofString "_wall") (188 : Nat)) :: (Value.str (Str.ofString "/claim/cut.py") (189 : Nat)) :: (Value.int (1 : Int) (0 : Nat)) :: (Value.int (1 : Int) (0 : Nat)) :: (Value.int (0 : Int) (0 : Nat)) :: (Value.int (0 : Int) (0 : Nat)) :: (Value.int (3 : Int) (0 : Nat)) :: (Value.ref (15 : Nat)) :: (Value.bool Bool.true) :: (Value.int (181 : Int) (0 : Nat)) :: (Value.ref (16 : Nat)) :: .none :: (Value.ref (17 : Nat)) :: (Value.ref (18 : Nat)) :: (Value.ref (19 : Nat)) :: (Value.int (191 : Int) (0 : Nat)) :: (Value.int (1 : Int) (0 : Nat)) :: (Value.str (Str.ofString "/claim/cut.py") (192 : Nat)) :: []))) (List.toArray []))
  (Obj.mk (Value.type "function") none (Data.func (FuncData.mk (Str.ofString "_wall") (Str.ofString "_wall") pA0 (FuncBody.stmts pB0) pS0 (3 : Nat) [] .none .none .none (Value.str (Str.ofString "__main__") (164 : Nat)) none (Value.ref (20 : Nat)) .none (0 : Nat))) (List.toArray []))
  (Obj.mk (Value.type "tuple") none (Data.seq (List.toArray []) (0 : Nat)) (List.toArray []))
  (Obj.mk (Value.type "builtin_function_or_method") none (Data.fields (List.toArray [(Value.builtin "type.__prepare__"), (Value.type "type")])) (List.toArray []))
  (Obj.mk (Value.type "dict") none (Data.dict (List.toArray [(DictEntry.mk (PyData.keyHash P (Str.ofString "__module__")) (Value.str (Str.ofString "__module__") (203 : Nat)) (Value.str (Str.ofString "emacs.objects") (194 : Nat))), (DictEntry.mk (PyData.keyHash P (Str.ofString "__qualname__")) (Value.str (Str.ofString "__qualname__") (205 : Nat)) (Value.str (Str.ofString "Symbol") (204 : Nat))), (DictEntry.mk (PyData.keyHash P (Str.ofString "__firstlineno__")) (Value.str (Str.ofString "__firstlineno__") (207 : Nat)) (Value.int (5 : Int) (206 : Nat))), (DictEntry.mk (PyData.keyHash P (Str.ofString "__init__")) (Value.str (Str.ofString "__init__") (216 : Nat)) (Value.ref (35 : Nat))), (DictEntry.mk (PyData.keyHash P (Str.ofString "__static_attributes__")) (Value.str (Str.ofString "__static_attributes__") (219 : Nat)) (Value.ref (36 : Nat)))]) (5 : Nat)) (List.toArray []))
  (Obj.mk (Value.type "tuple") none (Data.seq (List.toArray []) (0 : Nat)) (List.toArray []))
  (Obj.mk .none none (Data.fields (List.toArray [(Value.int (7 : Int) (0 : Nat)), (Value.int (4 : Int) (0 : Nat)), (Value.ref (34 : Nat))])) (List.toArray []))
  (Obj.mk (Value.type "code") none (Data.fields (List.toArray ((Value.str (Str.ofString "Symbol") (198 : Nat)) :: (Value.str (Str.ofString "Symbol") (199 : Nat)) :: (Value.str (Str.ofString "/claim/cut.py") (200 : Nat)) :: (Value.int (5 : Int) (0 : Nat)) :: (Value.int (0 : Int) (0 : Nat)) :: (Value.int (0 : Int) (0 : Nat)) :: (Value.int (0 : Int) (0 : Nat)) :: (Value.int (0 : Int) (0 : Nat)) :: (Value.ref (25 : Nat)) :: (Value.bool Bool.false) :: (Value.int (181 : Int) (0 : Nat)) :: (Value.ref (26 : Nat)) :: .none :: .none :: .none :: .none :: (Value.int (201 : Int) (0 : Nat)) :: (Value.int (5 : Int) (0 : Nat)) :: (Value.str (Str.ofString "/claim/cut.py") (202 : Nat)) :: []))) (List.toArray []))
  (Obj.mk (Value.type "frame") none .plain (List.toArray ((some (Value.ref (27 : Nat))) :: (some (Value.ref (3 : Nat))) :: (some (Value.ref (24 : Nat))) :: none :: (some (Value.str (Str.ofString "emacs.objects") (194 : Nat))) :: none :: (some (Value.ref (0 : Nat))) :: [])))
  (Obj.mk (Value.type "tuple") none (Data.seq (List.toArray []) (0 : Nat)) (List.toArray []))
  (Obj.mk .none none (Data.fields (List.toArray [])) (List.toArray []))
  (Obj.mk (Value.type "tuple") none (Data.seq (List.toArray [(Value.str (Str.ofString "self") (211 : Nat)), (Value.str (Str.ofString "number") (212 : Nat)), (Value.str (Str.ofString "name") (213 : Nat))]) (0 : Nat)) (List.toArray []))
  (Obj.mk (Value.type "tuple") none (Data.seq (List.toArray []) (0 : Nat)) (List.toArray []))
  (Obj.mk .none none (Data.func (FuncData.mk (Str.ofString "__init__") (Str.ofString "Symbol.__init__") pA1 (FuncBody.stmts pB1) pS1 (0 : Nat) [] .none .none .none .none none .none .none (0 : Nat))) (List.toArray []))
  (Obj.mk (Value.type "code") none (Data.fields (List.toArray ((Value.str (Str.ofString "__init__") (208 : Nat)) :: (Value.str (Str.ofString "Symbol.__init__") (209 : Nat)) :: (Value.str (Str.ofString "/claim/cut.py") (210 : Nat)) :: (Value.int (7 : Int) (0 : Nat)) :: (Value.int (3 : Int) (0 : Nat)) :: (Value.int (0 : Int) (0 : Nat)) :: (Value.int (0 : Int) (0 : Nat)) :: (Value.int (3 : Int) (0 : Nat)) :: (Value.ref (29 : Nat)) :: (Value.bool Bool.true) :: (Value.int (181 : Int) (0 : Nat)) :: (Value.ref (30 : Nat)) :: .none :: (Value.ref (31 : Nat)) :: (Value.ref (32 : Nat)) :: (Value.ref (33 : Nat)) :: (Value.int (214 : Int) (0 : Nat)) :: (Value.int (7 : Int) (0 : Nat)) :: (Value.str (Str.ofString "/claim/cut.py") (215 : Nat)) :: []))) (List.toArray []))
  (Obj.mk (Value.type "function") none (Data.func (FuncData.mk (Str.ofString "__init__") (Str.ofString "Symbol.__init__") pA1 (FuncBody.stmts pB1) pS1 (3 : Nat) [] .none .none .none (Value.str (Str.ofString "emacs.objects") (194 : Nat)) none (Value.ref (34 : Nat)) .none (0 : Nat))) (List.toArray []))
  (Obj.mk (Value.type "tuple") none (Data.seq (List.toArray [(Value.str (Str.ofString "name") (217 : Nat)), (Value.str (Str.ofString "number") (218 : Nat))]) (0 : Nat)) (List.toArray []))
  (Obj.mk (Value.type "dict") none (Data.dict (List.toArray ((DictEntry.mk (PyData.keyHash P (Str.ofString "__module__")) (Value.str (Str.ofString "__module__") (203 : Nat)) (Value.str (Str.ofString "emacs.objects") (194 : Nat))) :: (DictEntry.mk (PyData.keyHash P (Str.ofString "__firstlineno__")) (Value.str (Str.ofString "__firstlineno__") (207 : Nat)) (Value.int (5 : Int) (206 : Nat))) :: (DictEntry.mk (PyData.keyHash P (Str.ofString "__init__")) (Value.str (Str.ofString "__init__") (216 : Nat)) (Value.ref (35 : Nat))) :: (DictEntry.mk (PyData.keyHash P (Str.ofString "__static_attributes__")) (Value.str (Str.ofString "__static_attributes__") (219 : Nat)) (Value.ref (36 : Nat))) :: (DictEntry.mk (PyData.keyHash P (Str.ofString "__dict__")) (Value.str (Str.ofString "__dict__") (221 : Nat)) (Value.ref (39 : Nat))) :: (DictEntry.mk (PyData.keyHash P (Str.ofString "__weakref__")) (Value.str (Str.ofString "__weakref__") (223 : Nat)) (Value.ref (40 : Nat))) :: (DictEntry.mk (PyData.keyHash P (Str.ofString "__doc__")) (Value.str (Str.ofString "__doc__") (224 : Nat)) .none) :: [])) (4 : Nat)) (List.toArray []))
  (Obj.mk (Value.type "type") none (Data.cls (ClassData.mk (Str.ofString "Symbol") [(Value.type "object")] [(Value.ref (38 : Nat)), (Value.type "object")] (37 : Nat) (Str.ofString "Symbol") Bool.true [] [] Bool.false none Bool.false)) (List.toArray [none, none, (some (Value.str (Str.ofString "Symbol") (196 : Nat))), (some (Value.str (Str.ofString "Symbol") (204 : Nat))), (some (Value.builtin "object.__new__")), (some (Value.bool Bool.true))]))
  (Obj.mk (Value.type "getset_descriptor") none (Data.fields (List.toArray [(Value.str (Str.ofString "__dict__") (220 : Nat)), (Value.ref (38 : Nat)), (Value.builtin "function.__dict__"), (Value.builtin "function.__dict__#set")])) (List.toArray []))
  (Obj.mk (Value.type "getset_descriptor") none (Data.fields (List.toArray [(Value.str (Str.ofString "__weakref__") (222 : Nat)), (Value.ref (38 : Nat)), (Value.builtin "ExceptionGroup.__weakref__"), .none])) (List.toArray []))
  (Obj.mk (Value.type "super") none (Data.fields (List.toArray [(Value.ref (38 : Nat)), (Value.ref (38 : Nat)), (Value.ref (38 : Nat))])) (List.toArray []))
  (Obj.mk (Value.type "builtin_function_or_method") none (Data.fields (List.toArray [(Value.builtin "object.__init_subclass__"), (Value.ref (38 : Nat))])) (List.toArray []))
  (Obj.mk (Value.type "dict") none (Data.dict (List.toArray [(DictEntry.mk (PyData.keyHash P (Str.ofString "number")) (Value.str (Str.ofString "number") (233 : Nat)) (Value.int (0 : Int) (227 : Nat))), (DictEntry.mk (PyData.keyHash P (Str.ofString "name")) (Value.str (Str.ofString "name") (235 : Nat)) (Value.str (Str.ofString "nil") (228 : Nat)))]) (2 : Nat)) (List.toArray []))
  (Obj.mk (Value.ref (38 : Nat)) (some (43 : Nat)) .plain (List.toArray []))
  (Obj.mk (Value.type "frame") none (Data.dict (List.toArray [(DictEntry.mk (PyData.keyHash P (Str.ofString "self")) (Value.str (Str.ofString "self") (229 : Nat)) (Value.ref (44 : Nat))), (DictEntry.mk (PyData.keyHash P (Str.ofString "number")) (Value.str (Str.ofString "number") (230 : Nat)) (Value.int (0 : Int) (227 : Nat))), (DictEntry.mk (PyData.keyHash P (Str.ofString "name")) (Value.str (Str.ofString "name") (231 : Nat)) (Value.str (Str.ofString "nil") (228 : Nat)))]) (3 : Nat)) (List.toArray []))
/-- the new objects of a piece, handed to k -/
noncomputable def new_7 (β : Type) (k : Obj → Obj → Obj → Obj → Obj → Obj → Obj → Obj → Obj → Obj → Obj → Obj → Obj → Obj → Obj → Obj → Obj → Obj → Obj → Obj → Obj → Obj → Obj → Obj → Obj → Obj → Obj → Obj → Obj → Obj → Obj → Obj → Obj → Obj → β) (P : Params) : β := k
  (Obj.mk (Value.type "dict") none (Data.dict (List.toArray ((DictEntry.mk (PyData.keyHash P (Str.ofString "__name__")) (Value.str (Str.ofString "__name__") (165 : Nat)) (Value.str (Str.ofString "emacs.objects") (194 : Nat))) :: (DictEntry.mk (PyData.keyHash P (Str.ofString "__doc__")) (Value.str (Str.ofString "__doc__") (166 : Nat)) .none) :: (DictEntry.mk (PyData.keyHash P (Str.ofString "__package__")) (Value.str (Str.ofString "__package__") (167 : Nat)) .none) :: (DictEntry.mk (PyData.keyHash P (Str.ofString "__loader__")) (Value.str (Str.ofString "__loader__") (168 : Nat)) (Value.builtin "__main__.__loader__#opaque")) :: (DictEntry.mk (PyData.keyHash P (Str.ofString "__spec__")) (Value.str (Str.ofString "__spec__") (169 : Nat)) .none) :: (DictEntry.mk (PyData.keyHash P (Str.ofString "__annotations__")) (Value.str (Str.ofString "__annotations__") (170 : Nat)) (Value.ref (6 : Nat))) :: (DictEntry.mk (PyData.keyHash P (Str.ofString "__builtins__")) (Value.str (Str.ofString "__builtins__") (171 : Nat)) (Value.ref (4 : Nat))) :: (DictEntry.mk (PyData.keyHash P (Str.ofString "__file__")) (Value.str (Str.ofString "__file__") (173 : Nat)) (Value.str (Str.ofString "/claim/cut.py") (172 : Nat))) :: (DictEntry.mk (PyData.keyHash P (Str.ofString "__cached__")) (Value.str (Str.ofString "__cached__") (174 : Nat)) .none) :: (DictEntry.mk (PyData.keyHash P (Str.ofString "_wall")) (Value.str (Str.ofString "_wall") (193 : Nat)) (Value.ref (21 : Nat))) :: (DictEntry.mk (PyData.keyHash P (Str.ofString "Symbol")) (Value.str (Str.ofString "Symbol") (226 : Nat)) (Value.ref (38 : Nat))) :: (DictEntry.mk (PyData.keyHash P (Str.ofString "NIL")) (Value.str (Str.ofString "NIL") (236 : Nat)) (Value.ref (44 : Nat))) :: (DictEntry.mk (PyData.keyHash P (Str.ofString "T")) (Value.str (Str.ofString "T") (246 : Nat)) (Value.ref (47 : Nat))) :: (DictEntry.mk (PyData.keyHash P (Str.ofString "Cons")) (Value.str (Str.ofString "Cons") (277 : Nat)) (Value.ref (65 : Nat))) :: (DictEntry.mk (PyData.keyHash P (Str.ofString "list_of")) (Value.str (Str.ofString "list_of") (287 : Nat)) (Value.ref (77 : Nat))) :: [])) (15 : Nat)) (List.toArray []))
  (Obj.mk .none none (Data.fields (List.toArray ((Value.int (1 : Int) (0 : Nat)) :: (Value.int (0 : Int) (0 : Nat)) :: (Value.ref (20 : Nat)) :: (Value.int (5 : Int) (0 : Nat)) :: (Value.int (0 : Int) (0 : Nat)) :: (Value.ref (27 : Nat)) :: (Value.int (12 : Int) (0 : Nat)) :: (Value.int (0 : Int) (0 : Nat)) :: (Value.ref (54 : Nat)) :: (Value.int (17 : Int) (0 : Nat)) :: (Value.int (0 : Int) (0 : Nat)) :: (Value.ref (76 : Nat)) :: []))) (List.toArray []))
  (Obj.mk (Value.type "dict") none (Data.dict (List.toArray [(DictEntry.mk (PyData.keyHash P (Str.ofString "number")) (Value.str (Str.ofString "number") (243 : Nat)) (Value.int (1 : Int) (237 : Nat))), (DictEntry.mk (PyData.keyHash P (Str.ofString "name")) (Value.str (Str.ofString "name") (245 : Nat)) (Value.str (Str.ofString "t") (238 : Nat)))]) (2 : Nat)) (List.toArray []))
  (Obj.mk (Value.ref (38 : Nat)) (some (46 : Nat)) .plain (List.toArray []))
  (Obj.mk (Value.type "frame") none (Data.dict (List.toArray [(DictEntry.mk (PyData.keyHash P (Str.ofString "self")) (Value.str (Str.ofString "self") (239 : Nat)) (Value.ref (47 : Nat))), (DictEntry.mk (PyData.keyHash P (Str.ofString "number")) (Value.str (Str.ofString "number") (240 : Nat)) (Value.int (1 : Int) (237 : Nat))), (DictEntry.mk (PyData.keyHash P (Str.ofString "name")) (Value.str (Str.ofString "name") (241 : Nat)) (Value.str (Str.ofString "t") (238 : Nat)))]) (3 : Nat)) (List.toArray []))
  (Obj.mk (Value.type "tuple") none (Data.seq (List.toArray []) (0 : Nat)) (List.toArray []))
  (Obj.mk (Value.type "builtin_function_or_method") none (Data.fields (List.toArray [(Value.builtin "type.__prepare__"), (Value.type "type")])) (List.toArray []))
  (Obj.mk (Value.type "dict") none (Data.dict (List.toArray [(DictEntry.mk (PyData.keyHash P (Str.ofString "__module__")) (Value.str (Str.ofString "__module__") (254 : Nat)) (Value.str (Str.ofString "emacs.objects") (194 : Nat))), (DictEntry.mk (PyData.keyHash P (Str.ofString "__qualname__")) (Value.str (Str.ofString "__qualname__") (256 : Nat)) (Value.str (Str.ofString "Cons") (255 : Nat))), (DictEntry.mk (PyData.keyHash P (Str.ofString "__firstlineno__")) (Value.str (Str.ofString "__firstlineno__") (258 : Nat)) (Value.int (12 : Int) (257 : Nat))), (DictEntry.mk (PyData.keyHash P (Str.ofString "__init__")) (Value.str (Str.ofString "__init__") (267 : Nat)) (Value.ref (62 : Nat))), (DictEntry.mk (PyData.keyHash P (Str.ofString "__static_attributes__")) (Value.str (Str.ofString "__static_attributes__") (270 : Nat)) (Value.ref (63 : Nat)))]) (5 : Nat)) (List.toArray []))
  (Obj.mk (Value.type "tuple") none (Data.seq (List.toArray []) (0 : Nat)) (List.toArray []))
  (Obj.mk .none none (Data.fields (List.toArray [(Value.int (14 : Int) (0 : Nat)), (Value.int (4 : Int) (0 : Nat)), (Value.ref (61 : Nat))])) (List.toArray []))
  (Obj.mk (Value.type "code") none (Data.fields (List.toArray ((Value.str (Str.ofString "Cons") (249 : Nat)) :: (Value.str (Str.ofString "Cons") (250 : Nat)) :: (Value.str (Str.ofString "/claim/cut.py") (251 : Nat)) :: (Value.int (12 : Int) (0 : Nat)) :: (Value.int (0 : Int) (0 : Nat)) :: (Value.int (0 : Int) (0 : Nat)) :: (Value.int (0 : Int) (0 : Nat)) :: (Value.int (0 : Int) (0 : Nat)) :: (Value.ref (52 : Nat)) :: (Value.bool Bool.false) :: (Value.int (181 : Int) (0 : Nat)) :: (Value.ref (53 : Nat)) :: .none :: .none :: .none :: .none :: (Value.int (252 : Int) (0 : Nat)) :: (Value.int (12 : Int) (0 : Nat)) :: (Value.str (Str.ofString "/claim/cut.py") (253 : Nat)) :: []))) (List.toArray []))
  (Obj.mk (Value.type "frame") none .plain (List.toArray ((some (Value.ref (54 : Nat))) :: (some (Value.ref (3 : Nat))) :: (some (Value.ref (51 : Nat))) :: none :: (some (Value.str (Str.ofString "emacs.objects") (194 : Nat))) :: none :: (some (Value.ref (0 : Nat))) :: [])))
  (Obj.mk (Value.type "tuple") none (Data.seq (List.toArray []) (0 : Nat)) (List.toArray []))
  (Obj.mk .none none (Data.fields (List.toArray [])) (List.toArray []))
  (Obj.mk (Value.type "tuple") none (Data.seq (List.toArray [(Value.str (Str.ofString "self") (262 : Nat)), (Value.str (Str.ofString "car") (263 : Nat)), (Value.str (Str.ofString "cdr") (264 : Nat))]) (0 : Nat)) (List.toArray []))
  (Obj.mk (Value.type "tuple") none (Data.seq (List.toArray []) (0 : Nat)) (List.toArray []))
  (Obj.mk .none none (Data.func (FuncData.mk (Str.ofString "__init__") (Str.ofString "Cons.__init__") pA2 (FuncBody.stmts pB2) pS2 (0 : Nat) [] .none .none .none .none none .none .none (0 : Nat))) (List.toArray []))
  (Obj.mk (Value.type "code") none (Data.fields (List.toArray ((Value.str (Str.ofString "__init__") (259 : Nat)) :: (Value.str (Str.ofString "Cons.__init__") (260 : Nat)) :: (Value.str (Str.ofString "/claim/cut.py") (261 : Nat)) :: (Value.int (14 : Int) (0 : Nat)) :: (Value.int (3 : Int) (0 : Nat)) :: (Value.int (0 : Int) (0 : Nat)) :: (Value.int (0 : Int) (0 : Nat)) :: (Value.int (3 : Int) (0 : Nat)) :: (Value.ref (56 : Nat)) :: (Value.bool Bool.true) :: (Value.int (181 : Int) (0 : Nat)) :: (Value.ref (57 : Nat)) :: .none :: (Value.ref (58 : Nat)) :: (Value.ref (59 : Nat)) :: (Value.ref (60 : Nat)) :: (Value.int (265 : Int) (0 : Nat)) :: (Value.int (14 : Int) (0 : Nat)) :: (Value.str (Str.ofString "/claim/cut.py") (266 : Nat)) :: []))) (List.toArray []))
  (Obj.mk (Value.type "function") none (Data.func (FuncData.mk (Str.ofString "__init__") (Str.ofString "Cons.__init__") pA2 (FuncBody.stmts pB2) pS2 (3 : Nat) [] .none .none .none (Value.str (Str.ofString "emacs.objects") (194 : Nat)) none (Value.ref (61 : Nat)) .none (0 : Nat))) (List.toArray []))
  (Obj.mk (Value.type "tuple") none (Data.seq (List.toArray [(Value.str (Str.ofString "car") (268 : Nat)), (Value.str (Str.ofString "cdr") (269 : Nat))]) (0 : Nat)) (List.toArray []))
  (Obj.mk (Value.type "dict") none (Data.dict (List.toArray ((DictEntry.mk (PyData.keyHash P (Str.ofString "__module__")) (Value.str (Str.ofString "__module__") (254 : Nat)) (Value.str (Str.ofString "emacs.objects") (194 : Nat))) :: (DictEntry.mk (PyData.keyHash P (Str.ofString "__firstlineno__")) (Value.str (Str.ofString "__firstlineno__") (258 : Nat)) (Value.int (12 : Int) (257 : Nat))) :: (DictEntry.mk (PyData.keyHash P (Str.ofString "__init__")) (Value.str (Str.ofString "__init__") (267 : Nat)) (Value.ref (62 : Nat))) :: (DictEntry.mk (PyData.keyHash P (Str.ofString "__static_attributes__")) (Value.str (Str.ofString "__static_attributes__") (270 : Nat)) (Value.ref (63 : Nat))) :: (DictEntry.mk (PyData.keyHash P (Str.ofString "__dict__")) (Value.str (Str.ofString "__dict__") (272 : Nat)) (Value.ref (66 : Nat))) :: (DictEntry.mk (PyData.keyHash P (Str.ofString "__weakref__")) (Value.str (Str.ofString "__weakref__") (274 : Nat)) (Value.ref (67 : Nat))) :: (DictEntry.mk (PyData.keyHash P (Str.ofString "__doc__")) (Value.str (Str.ofString "__doc__") (275 : Nat)) .none) :: [])) (4 : Nat)) (List.toArray []))
  (Obj.mk (Value.type "type") none (Data.cls (ClassData.mk (Str.ofString "Cons") [(Value.type "object")] [(Value.ref (65 : Nat)), (Value.type "object")] (64 : Nat) (Str.ofString "Cons") Bool.true [] [] Bool.false none Bool.false)) (List.toArray [none, none, (some (Value.str (Str.ofString "Cons") (247 : Nat))), (some (Value.str (Str.ofString "Cons") (255 : Nat))), (some (Value.builtin "object.__new__")), (some (Value.bool Bool.true))]))
  (Obj.mk (Value.type "getset_descriptor") none (Data.fields (List.toArray [(Value.str (Str.ofString "__dict__") (271 : Nat)), (Value.ref (65 : Nat)), (Value.builtin "function.__dict__"), (Value.builtin "function.__dict__#set")])) (List.toArray []))
  (Obj.mk (Value.type "getset_descriptor") none (Data.fields (List.toArray [(Value.str (Str.ofString "__weakref__") (273 : Nat)), (Value.ref (65 : Nat)), (Value.builtin "ExceptionGroup.__weakref__"), .none])) (List.toArray []))
  (Obj.mk (Value.type "super") none (Data.fields (List.toArray [(Value.ref (65 : Nat)), (Value.ref (65 : Nat)), (Value.ref (65 : Nat))])) (List.toArray []))
  (Obj.mk (Value.type "builtin_function_or_method") none (Data.fields (List.toArray [(Value.builtin "object.__init_subclass__"), (Value.ref (65 : Nat))])) (List.toArray []))
  (Obj.mk (Value.type "tuple") none (Data.seq (List.toArray [(Value.ref (44 : Nat))]) (0 : Nat)) (List.toArray []))
  (Obj.mk (Value.type "tuple") none (Data.seq (List.toArray []) (0 : Nat)) (List.toArray []))
  (Obj.mk .none none (Data.fields (List.toArray [])) (List.toArray []))
  (Obj.mk (Value.type "tuple") none (Data.seq (List.toArray [(Value.str (Str.ofString "things") (281 : Nat)), (Value.str (Str.ofString "tail") (282 : Nat)), (Value.str (Str.ofString "found") (283 : Nat)), (Value.str (Str.ofString "place") (284 : Nat))]) (0 : Nat)) (List.toArray []))
  (Obj.mk (Value.type "tuple") none (Data.seq (List.toArray []) (0 : Nat)) (List.toArray []))
  (Obj.mk .none none (Data.func (FuncData.mk (Str.ofString "list_of") (Str.ofString "list_of") pA3 (FuncBody.stmts pB3) pS3 (0 : Nat) [] .none .none .none .none none .none .none (0 : Nat))) (List.toArray []))
  (Obj.mk (Value.type "code") none (Data.fields (List.toArray ((Value.str (Str.ofString "list_of") (278 : Nat)) :: (Value.str (Str.ofString "list_of") (279 : Nat)) :: (Value.str (Str.ofString "/claim/cut.py") (280 : Nat)) :: (Value.int (17 : Int) (0 : Nat)) :: (Value.int (2 : Int) (0 : Nat)) :: (Value.int (0 : Int) (0 : Nat)) :: (Value.int (0 : Int) (0 : Nat)) :: (Value.int (3 : Int) (0 : Nat)) :: (Value.ref (71 : Nat)) :: (Value.bool Bool.true) :: (Value.int (181 : Int) (0 : Nat)) :: (Value.ref (72 : Nat)) :: .none :: (Value.ref (73 : Nat)) :: (Value.ref (74 : Nat)) :: (Value.ref (75 : Nat)) :: (Value.int (285 : Int) (0 : Nat)) :: (Value.int (17 : Int) (0 : Nat)) :: (Value.str (Str.ofString "/claim/cut.py") (286 : Nat)) :: []))) (List.toArray []))
  (Obj.mk (Value.type "function") none (Data.func (FuncData.mk (Str.ofString "list_of") (Str.ofString "list_of") pA3 (FuncBody.stmts pB3) pS3 (3 : Nat) [] (Value.ref (70 : Nat)) .none .none (Value.str (Str.ofString "emacs.objects") (194 : Nat)) none (Value.ref (76 : Nat)) .none (0 : Nat))) (List.toArray []))
/-- the new objects of a piece, handed to k -/
noncomputable def new_10 (β : Type) (k : Obj → Obj → Obj → Obj → Obj → Obj → Obj → Obj → Obj → Obj → Obj → Obj → Obj → Obj → Obj → Obj → Obj → Obj → Obj → Obj → Obj → Obj → Obj → Obj → Obj → Obj → Obj → Obj → Obj → Obj → Obj → Obj → Obj → Obj → Obj → Obj → Obj → Obj → Obj → Obj → Obj → Obj → Obj → Obj → β) (P : Params) : β := k
  (Obj.mk (Value.type "dict") none (Data.dict (List.toArray ((DictEntry.mk (PyData.keyHash P (Str.ofString "__name__")) (Value.str (Str.ofString "__name__") (165 : Nat)) (Value.str (Str.ofString "emacs.byteunit") (295 : Nat))) :: (DictEntry.mk (PyData.keyHash P (Str.ofString "__doc__")) (Value.str (Str.ofString "__doc__") (166 : Nat)) .none) :: (DictEntry.mk (PyData.keyHash P (Str.ofString "__package__")) (Value.str (Str.ofString "__package__") (167 : Nat)) .none) :: (DictEntry.mk (PyData.keyHash P (Str.ofString "__loader__")) (Value.str (Str.ofString "__loader__") (168 : Nat)) (Value.builtin "__main__.__loader__#opaque")) :: (DictEntry.mk (PyData.keyHash P (Str.ofString "__spec__")) (Value.str (Str.ofString "__spec__") (169 : Nat)) .none) :: (DictEntry.mk (PyData.keyHash P (Str.ofString "__annotations__")) (Value.str (Str.ofString "__annotations__") (170 : Nat)) (Value.ref (6 : Nat))) :: (DictEntry.mk (PyData.keyHash P (Str.ofString "__builtins__")) (Value.str (Str.ofString "__builtins__") (171 : Nat)) (Value.ref (4 : Nat))) :: (DictEntry.mk (PyData.keyHash P (Str.ofString "__file__")) (Value.str (Str.ofString "__file__") (173 : Nat)) (Value.str (Str.ofString "/claim/cut.py") (172 : Nat))) :: (DictEntry.mk (PyData.keyHash P (Str.ofString "__cached__")) (Value.str (Str.ofString "__cached__") (174 : Nat)) .none) :: (DictEntry.mk (PyData.keyHash P (Str.ofString "_wall")) (Value.str (Str.ofString "_wall") (193 : Nat)) (Value.ref (21 : Nat))) :: (DictEntry.mk (PyData.keyHash P (Str.ofString "Symbol")) (Value.str (Str.ofString "Symbol") (226 : Nat)) (Value.ref (38 : Nat))) :: (DictEntry.mk (PyData.keyHash P (Str.ofString "NIL")) (Value.str (Str.ofString "NIL") (236 : Nat)) (Value.ref (44 : Nat))) :: (DictEntry.mk (PyData.keyHash P (Str.ofString "T")) (Value.str (Str.ofString "T") (246 : Nat)) (Value.ref (47 : Nat))) :: (DictEntry.mk (PyData.keyHash P (Str.ofString "Cons")) (Value.str (Str.ofString "Cons") (277 : Nat)) (Value.ref (65 : Nat))) :: (DictEntry.mk (PyData.keyHash P (Str.ofString "list_of")) (Value.str (Str.ofString "list_of") (287 : Nat)) (Value.ref (77 : Nat))) :: (DictEntry.mk (PyData.keyHash P (Str.ofString "is_whole")) (Value.str (Str.ofString "is_whole") (294 : Nat)) (Value.ref (84 : Nat))) :: (DictEntry.mk (PyData.keyHash P (Str.ofString "Constants")) (Value.str (Str.ofString "Constants") (342 : Nat)) (Value.ref (115 : Nat))) :: [])) (17 : Nat)) (List.toArray []))
  (Obj.mk .none none (Data.fields (List.toArray ((Value.int (1 : Int) (0 : Nat)) :: (Value.int (0 : Int) (0 : Nat)) :: (Value.ref (20 : Nat)) :: (Value.int (5 : Int) (0 : Nat)) :: (Value.int (0 : Int) (0 : Nat)) :: (Value.ref (27 : Nat)) :: (Value.int (12 : Int) (0 : Nat)) :: (Value.int (0 : Int) (0 : Nat)) :: (Value.ref (54 : Nat)) :: (Value.int (17 : Int) (0 : Nat)) :: (Value.int (0 : Int) (0 : Nat)) :: (Value.ref (76 : Nat)) :: (Value.int (22 : Int) (0 : Nat)) :: (Value.int (0 : Int) (0 : Nat)) :: (Value.ref (83 : Nat)) :: (Value.int (25 : Int) (0 : Nat)) :: (Value.int (0 : Int) (0 : Nat)) :: (Value.ref (90 : Nat)) :: []))) (List.toArray []))
  (Obj.mk (Value.type "tuple") none (Data.seq (List.toArray []) (0 : Nat)) (List.toArray []))
  (Obj.mk .none none (Data.fields (List.toArray [])) (List.toArray []))
  (Obj.mk (Value.type "tuple") none (Data.seq (List.toArray [(Value.str (Str.ofString "datum") (291 : Nat))]) (0 : Nat)) (List.toArray []))
  (Obj.mk (Value.type "tuple") none (Data.seq (List.toArray []) (0 : Nat)) (List.toArray []))
  (Obj.mk .none none (Data.func (FuncData.mk (Str.ofString "is_whole") (Str.ofString "is_whole") pA4 (FuncBody.stmts pB4) pS4 (0 : Nat) [] .none .none .none .none none .none .none (0 : Nat))) (List.toArray []))
  (Obj.mk (Value.type "code") none (Data.fields (List.toArray ((Value.str (Str.ofString "is_whole") (288 : Nat)) :: (Value.str (Str.ofString "is_whole") (289 : Nat)) :: (Value.str (Str.ofString "/claim/cut.py") (290 : Nat)) :: (Value.int (22 : Int) (0 : Nat)) :: (Value.int (1 : Int) (0 : Nat)) :: (Value.int (0 : Int) (0 : Nat)) :: (Value.int (0 : Int) (0 : Nat)) :: (Value.int (3 : Int) (0 : Nat)) :: (Value.ref (78 : Nat)) :: (Value.bool Bool.true) :: (Value.int (181 : Int) (0 : Nat)) :: (Value.ref (79 : Nat)) :: .none :: (Value.ref (80 : Nat)) :: (Value.ref (81 : Nat)) :: (Value.ref (82 : Nat)) :: (Value.int (292 : Int) (0 : Nat)) :: (Value.int (22 : Int) (0 : Nat)) :: (Value.str (Str.ofString "/claim/cut.py") (293 : Nat)) :: []))) (List.toArray []))
  (Obj.mk (Value.type "function") none (Data.func (FuncData.mk (Str.ofString "is_whole") (Str.ofString "is_whole") pA4 (FuncBody.stmts pB4) pS4 (3 : Nat) [] .none .none .none (Value.str (Str.ofString "emacs.objects") (194 : Nat)) none (Value.ref (83 : Nat)) .none (0 : Nat))) (List.toArray []))
  (Obj.mk (Value.type "tuple") none (Data.seq (List.toArray []) (0 : Nat)) (List.toArray []))
  (Obj.mk (Value.type "builtin_function_or_method") none (Data.fields (List.toArray [(Value.builtin "type.__prepare__"), (Value.type "type")])) (List.toArray []))
  (Obj.mk (Value.type "dict") none (Data.dict (List.toArray ((DictEntry.mk (PyData.keyHash P (Str.ofString "__module__")) (Value.str (Str.ofString "__module__") (304 : Nat)) (Value.str (Str.ofString "emacs.byteunit") (295 : Nat))) :: (DictEntry.mk (PyData.keyHash P (Str.ofString "__qualname__")) (Value.str (Str.ofString "__qualname__") (306 : Nat)) (Value.str (Str.ofString "Constants") (305 : Nat))) :: (DictEntry.mk (PyData.keyHash P (Str.ofString "__firstlineno__")) (Value.str (Str.ofString "__firstlineno__") (308 : Nat)) (Value.int (25 : Int) (307 : Nat))) :: (DictEntry.mk (PyData.keyHash P (Str.ofString "__init__")) (Value.str (Str.ofString "__init__") (315 : Nat)) (Value.ref (98 : Nat))) :: (DictEntry.mk (PyData.keyHash P (Str.ofString "index_of")) (Value.str (Str.ofString "index_of") (325 : Nat)) (Value.ref (105 : Nat))) :: (DictEntry.mk (PyData.keyHash P (Str.ofString "is_nil")) (Value.str (Str.ofString "is_nil") (333 : Nat)) (Value.ref (112 : Nat))) :: (DictEntry.mk (PyData.keyHash P (Str.ofString "__static_attributes__")) (Value.str (Str.ofString "__static_attributes__") (335 : Nat)) (Value.ref (113 : Nat))) :: [])) (7 : Nat)) (List.toArray []))
  (Obj.mk (Value.type "tuple") none (Data.seq (List.toArray []) (0 : Nat)) (List.toArray []))
  (Obj.mk .none none (Data.fields (List.toArray ((Value.int (27 : Int) (0 : Nat)) :: (Value.int (4 : Int) (0 : Nat)) :: (Value.ref (97 : Nat)) :: (Value.int (30 : Int) (0 : Nat)) :: (Value.int (4 : Int) (0 : Nat)) :: (Value.ref (104 : Nat)) :: (Value.int (37 : Int) (0 : Nat)) :: (Value.int (4 : Int) (0 : Nat)) :: (Value.ref (111 : Nat)) :: []))) (List.toArray []))
  (Obj.mk (Value.type "code") none (Data.fields (List.toArray ((Value.str (Str.ofString "Constants") (299 : Nat)) :: (Value.str (Str.ofString "Constants") (300 : Nat)) :: (Value.str (Str.ofString "/claim/cut.py") (301 : Nat)) :: (Value.int (25 : Int) (0 : Nat)) :: (Value.int (0 : Int) (0 : Nat)) :: (Value.int (0 : Int) (0 : Nat)) :: (Value.int (0 : Int) (0 : Nat)) :: (Value.int (0 : Int) (0 : Nat)) :: (Value.ref (88 : Nat)) :: (Value.bool Bool.false) :: (Value.int (181 : Int) (0 : Nat)) :: (Value.ref (89 : Nat)) :: .none :: .none :: .none :: .none :: (Value.int (302 : Int) (0 : Nat)) :: (Value.int (25 : Int) (0 : Nat)) :: (Value.str (Str.ofString "/claim/cut.py") (303 : Nat)) :: []))) (List.toArray []))
  (Obj.mk (Value.type "frame") none .plain (List.toArray ((some (Value.ref (90 : Nat))) :: (some (Value.ref (3 : Nat))) :: (some (Value.ref (87 : Nat))) :: none :: (some (Value.str (Str.ofString "emacs.byteunit") (295 : Nat))) :: none :: (some (Value.ref (0 : Nat))) :: [])))
  (Obj.mk (Value.type "tuple") none (Data.seq (List.toArray []) (0 : Nat)) (List.toArray []))
  (Obj.mk .none none (Data.fields (List.toArray [])) (List.toArray []))
  (Obj.mk (Value.type "tuple") none (Data.seq (List.toArray [(Value.str (Str.ofString "self") (312 : Nat))]) (0 : Nat)) (List.toArray []))
  (Obj.mk (Value.type "tuple") none (Data.seq (List.toArray []) (0 : Nat)) (List.toArray []))
  (Obj.mk .none none (Data.func (FuncData.mk (Str.ofString "__init__") (Str.ofString "Constants.__init__") pA5 (FuncBody.stmts pB5) pS5 (0 : Nat) [] .none .none .none .none none .none .none (0 : Nat))) (List.toArray []))
  (Obj.mk (Value.type "code") none (Data.fields (List.toArray ((Value.str (Str.ofString "__init__") (309 : Nat)) :: (Value.str (Str.ofString "Constants.__init__") (310 : Nat)) :: (Value.str (Str.ofString "/claim/cut.py") (311 : Nat)) :: (Value.int (27 : Int) (0 : Nat)) :: (Value.int (1 : Int) (0 : Nat)) :: (Value.int (0 : Int) (0 : Nat)) :: (Value.int (0 : Int) (0 : Nat)) :: (Value.int (3 : Int) (0 : Nat)) :: (Value.ref (92 : Nat)) :: (Value.bool Bool.true) :: (Value.int (181 : Int) (0 : Nat)) :: (Value.ref (93 : Nat)) :: .none :: (Value.ref (94 : Nat)) :: (Value.ref (95 : Nat)) :: (Value.ref (96 : Nat)) :: (Value.int (313 : Int) (0 : Nat)) :: (Value.int (27 : Int) (0 : Nat)) :: (Value.str (Str.ofString "/claim/cut.py") (314 : Nat)) :: []))) (List.toArray []))
  (Obj.mk (Value.type "function") none (Data.func (FuncData.mk (Str.ofString "__init__") (Str.ofString "Constants.__init__") pA5 (FuncBody.stmts pB5) pS5 (3 : Nat) [] .none .none .none (Value.str (Str.ofString "emacs.byteunit") (295 : Nat)) none (Value.ref (97 : Nat)) .none (0 : Nat))) (List.toArray []))
  (Obj.mk (Value.type "tuple") none (Data.seq (List.toArray []) (0 : Nat)) (List.toArray []))
  (Obj.mk .none none (Data.fields (List.toArray [])) (List.toArray []))
  (Obj.mk (Value.type "tuple") none (Data.seq (List.toArray [(Value.str (Str.ofString "self") (319 : Nat)), (Value.str (Str.ofString "value") (320 : Nat)), (Value.str (Str.ofString "index") (321 : Nat)), (Value.str (Str.ofString "own") (322 : Nat))]) (0 : Nat)) (List.toArray []))
  (Obj.mk (Value.type "tuple") none (Data.seq (List.toArray []) (0 : Nat)) (List.toArray []))
  (Obj.mk .none none (Data.func (FuncData.mk (Str.ofString "index_of") (Str.ofString "Constants.index_of") pA6 (FuncBody.stmts pB6) pS6 (0 : Nat) [] .none .none .none .none none .none .none (0 : Nat))) (List.toArray []))
  (Obj.mk (Value.type "code") none (Data.fields (List.toArray ((Value.str (Str.ofString "index_of") (316 : Nat)) :: (Value.str (Str.ofString "Constants.index_of") (317 : Nat)) :: (Value.str (Str.ofString "/claim/cut.py") (318 : Nat)) :: (Value.int (30 : Int) (0 : Nat)) :: (Value.int (2 : Int) (0 : Nat)) :: (Value.int (0 : Int) (0 : Nat)) :: (Value.int (0 : Int) (0 : Nat)) :: (Value.int (3 : Int) (0 : Nat)) :: (Value.ref (99 : Nat)) :: (Value.bool Bool.true) :: (Value.int (181 : Int) (0 : Nat)) :: (Value.ref (100 : Nat)) :: .none :: (Value.ref (101 : Nat)) :: (Value.ref (102 : Nat)) :: (Value.ref (103 : Nat)) :: (Value.int (323 : Int) (0 : Nat)) :: (Value.int (30 : Int) (0 : Nat)) :: (Value.str (Str.ofString "/claim/cut.py") (324 : Nat)) :: []))) (List.toArray []))
  (Obj.mk (Value.type "function") none (Data.func (FuncData.mk (Str.ofString "index_of") (Str.ofString "Constants.index_of") pA6 (FuncBody.stmts pB6) pS6 (3 : Nat) [] .none .none .none (Value.str (Str.ofString "emacs.byteunit") (295 : Nat)) none (Value.ref (104 : Nat)) .none (0 : Nat))) (List.toArray []))
  (Obj.mk (Value.type "tuple") none (Data.seq (List.toArray []) (0 : Nat)) (List.toArray []))
  (Obj.mk .none none (Data.fields (List.toArray [])) (List.toArray []))
  (Obj.mk (Value.type "tuple") none (Data.seq (List.toArray [(Value.str (Str.ofString "self") (329 : Nat)), (Value.str (Str.ofString "index") (330 : Nat))]) (0 : Nat)) (List.toArray []))
  (Obj.mk (Value.type "tuple") none (Data.seq (List.toArray []) (0 : Nat)) (List.toArray []))
  (Obj.mk .none none (Data.func (FuncData.mk (Str.ofString "is_nil") (Str.ofString "Constants.is_nil") pA7 (FuncBody.stmts pB7) pS7 (0 : Nat) [] .none .none .none .none none .none .none (0 : Nat))) (List.toArray []))
  (Obj.mk (Value.type "code") none (Data.fields (List.toArray ((Value.str (Str.ofString "is_nil") (326 : Nat)) :: (Value.str (Str.ofString "Constants.is_nil") (327 : Nat)) :: (Value.str (Str.ofString "/claim/cut.py") (328 : Nat)) :: (Value.int (37 : Int) (0 : Nat)) :: (Value.int (2 : Int) (0 : Nat)) :: (Value.int (0 : Int) (0 : Nat)) :: (Value.int (0 : Int) (0 : Nat)) :: (Value.int (3 : Int) (0 : Nat)) :: (Value.ref (106 : Nat)) :: (Value.bool Bool.true) :: (Value.int (181 : Int) (0 : Nat)) :: (Value.ref (107 : Nat)) :: .none :: (Value.ref (108 : Nat)) :: (Value.ref (109 : Nat)) :: (Value.ref (110 : Nat)) :: (Value.int (331 : Int) (0 : Nat)) :: (Value.int (37 : Int) (0 : Nat)) :: (Value.str (Str.ofString "/claim/cut.py") (332 : Nat)) :: []))) (List.toArray []))
  (Obj.mk (Value.type "function") none (Data.func (FuncData.mk (Str.ofString "is_nil") (Str.ofString "Constants.is_nil") pA7 (FuncBody.stmts pB7) pS7 (3 : Nat) [] .none .none .none (Value.str (Str.ofString "emacs.byteunit") (295 : Nat)) none (Value.ref (111 : Nat)) .none (0 : Nat))) (List.toArray []))
  (Obj.mk (Value.type "tuple") none (Data.seq (List.toArray [(Value.str (Str.ofString "values") (334 : Nat))]) (0 : Nat)) (List.toArray []))
  (Obj.mk (Value.type "dict") none (Data.dict (List.toArray ((DictEntry.mk (PyData.keyHash P (Str.ofString "__module__")) (Value.str (Str.ofString "__module__") (304 : Nat)) (Value.str (Str.ofString "emacs.byteunit") (295 : Nat))) :: (DictEntry.mk (PyData.keyHash P (Str.ofString "__firstlineno__")) (Value.str (Str.ofString "__firstlineno__") (308 : Nat)) (Value.int (25 : Int) (307 : Nat))) :: (DictEntry.mk (PyData.keyHash P (Str.ofString "__init__")) (Value.str (Str.ofString "__init__") (315 : Nat)) (Value.ref (98 : Nat))) :: (DictEntry.mk (PyData.keyHash P (Str.ofString "index_of")) (Value.str (Str.ofString "index_of") (325 : Nat)) (Value.ref (105 : Nat))) :: (DictEntry.mk (PyData.keyHash P (Str.ofString "is_nil")) (Value.str (Str.ofString "is_nil") (333 : Nat)) (Value.ref (112 : Nat))) :: (DictEntry.mk (PyData.keyHash P (Str.ofString "__static_attributes__")) (Value.str (Str.ofString "__static_attributes__") (335 : Nat)) (Value.ref (113 : Nat))) :: (DictEntry.mk (PyData.keyHash P (Str.ofString "__dict__")) (Value.str (Str.ofString "__dict__") (337 : Nat)) (Value.ref (116 : Nat))) :: (DictEntry.mk (PyData.keyHash P (Str.ofString "__weakref__")) (Value.str (Str.ofString "__weakref__") (339 : Nat)) (Value.ref (117 : Nat))) :: (DictEntry.mk (PyData.keyHash P (Str.ofString "__doc__")) (Value.str (Str.ofString "__doc__") (340 : Nat)) .none) :: [])) (4 : Nat)) (List.toArray []))
  (Obj.mk (Value.type "type") none (Data.cls (ClassData.mk (Str.ofString "Constants") [(Value.type "object")] [(Value.ref (115 : Nat)), (Value.type "object")] (114 : Nat) (Str.ofString "Constants") Bool.true [] [] Bool.false none Bool.false)) (List.toArray [none, none, (some (Value.str (Str.ofString "Constants") (297 : Nat))), (some (Value.str (Str.ofString "Constants") (305 : Nat))), (some (Value.builtin "object.__new__")), (some (Value.bool Bool.true))]))
  (Obj.mk (Value.type "getset_descriptor") none (Data.fields (List.toArray [(Value.str (Str.ofString "__dict__") (336 : Nat)), (Value.ref (115 : Nat)), (Value.builtin "function.__dict__"), (Value.builtin "function.__dict__#set")])) (List.toArray []))
  (Obj.mk (Value.type "getset_descriptor") none (Data.fields (List.toArray [(Value.str (Str.ofString "__weakref__") (338 : Nat)), (Value.ref (115 : Nat)), (Value.builtin "ExceptionGroup.__weakref__"), .none])) (List.toArray []))
  (Obj.mk (Value.type "super") none (Data.fields (List.toArray [(Value.ref (115 : Nat)), (Value.ref (115 : Nat)), (Value.ref (115 : Nat))])) (List.toArray []))
  (Obj.mk (Value.type "builtin_function_or_method") none (Data.fields (List.toArray [(Value.builtin "object.__init_subclass__"), (Value.ref (115 : Nat))])) (List.toArray []))
/-- the new objects of a piece, handed to k -/
noncomputable def new_13 (β : Type) (k : Obj → Obj → Obj → Obj → Obj → Obj → Obj → Obj → Obj → Obj → Obj → Obj → Obj → Obj → Obj → Obj → Obj → Obj → Obj → Obj → Obj → Obj → Obj → Obj → Obj → Obj → Obj → Obj → Obj → Obj → Obj → Obj → Obj → Obj → Obj → Obj → Obj → Obj → Obj → Obj → Obj → Obj → Obj → Obj → Obj → Obj → Obj → Obj → Obj → Obj → Obj → Obj → Obj → Obj → Obj → Obj → Obj → Obj → Obj → β) (P : Params) : β := k
  (Obj.mk (Value.type "dict") none (Data.dict (List.toArray ((DictEntry.mk (PyData.keyHash P (Str.ofString "__name__")) (Value.str (Str.ofString "__name__") (165 : Nat)) (Value.str (Str.ofString "emacs.byteunit") (295 : Nat))) :: (DictEntry.mk (PyData.keyHash P (Str.ofString "__doc__")) (Value.str (Str.ofString "__doc__") (166 : Nat)) .none) :: (DictEntry.mk (PyData.keyHash P (Str.ofString "__package__")) (Value.str (Str.ofString "__package__") (167 : Nat)) .none) :: (DictEntry.mk (PyData.keyHash P (Str.ofString "__loader__")) (Value.str (Str.ofString "__loader__") (168 : Nat)) (Value.builtin "__main__.__loader__#opaque")) :: (DictEntry.mk (PyData.keyHash P (Str.ofString "__spec__")) (Value.str (Str.ofString "__spec__") (169 : Nat)) .none) :: (DictEntry.mk (PyData.keyHash P (Str.ofString "__annotations__")) (Value.str (Str.ofString "__annotations__") (170 : Nat)) (Value.ref (6 : Nat))) :: (DictEntry.mk (PyData.keyHash P (Str.ofString "__builtins__")) (Value.str (Str.ofString "__builtins__") (171 : Nat)) (Value.ref (4 : Nat))) :: (DictEntry.mk (PyData.keyHash P (Str.ofString "__file__")) (Value.str (Str.ofString "__file__") (173 : Nat)) (Value.str (Str.ofString "/claim/cut.py") (172 : Nat))) :: (DictEntry.mk (PyData.keyHash P (Str.ofString "__cached__")) (Value.str (Str.ofString "__cached__") (174 : Nat)) .none) :: (DictEntry.mk (PyData.keyHash P (Str.ofString "_wall")) (Value.str (Str.ofString "_wall") (193 : Nat)) (Value.ref (21 : Nat))) :: (DictEntry.mk (PyData.keyHash P (Str.ofString "Symbol")) (Value.str (Str.ofString "Symbol") (226 : Nat)) (Value.ref (38 : Nat))) :: (DictEntry.mk (PyData.keyHash P (Str.ofString "NIL")) (Value.str (Str.ofString "NIL") (236 : Nat)) (Value.ref (44 : Nat))) :: (DictEntry.mk (PyData.keyHash P (Str.ofString "T")) (Value.str (Str.ofString "T") (246 : Nat)) (Value.ref (47 : Nat))) :: (DictEntry.mk (PyData.keyHash P (Str.ofString "Cons")) (Value.str (Str.ofString "Cons") (277 : Nat)) (Value.ref (65 : Nat))) :: (DictEntry.mk (PyData.keyHash P (Str.ofString "list_of")) (Value.str (Str.ofString "list_of") (287 : Nat)) (Value.ref (77 : Nat))) :: (DictEntry.mk (PyData.keyHash P (Str.ofString "is_whole")) (Value.str (Str.ofString "is_whole") (294 : Nat)) (Value.ref (84 : Nat))) :: (DictEntry.mk (PyData.keyHash P (Str.ofString "Constants")) (Value.str (Str.ofString "Constants") (342 : Nat)) (Value.ref (115 : Nat))) :: (DictEntry.mk (PyData.keyHash P (Str.ofString "Unit")) (Value.str (Str.ofString "Unit") (399 : Nat)) (Value.ref (157 : Nat))) :: (DictEntry.mk (PyData.keyHash P (Str.ofString "form_task")) (Value.str (Str.ofString "form_task") (407 : Nat)) (Value.ref (168 : Nat))) :: (DictEntry.mk (PyData.keyHash P (Str.ofString "line_task")) (Value.str (Str.ofString "line_task") (417 : Nat)) (Value.ref (176 : Nat))) :: [])) (20 : Nat)) (List.toArray []))
  (Obj.mk .none none (Data.fields (List.toArray ((Value.int (1 : Int) (0 : Nat)) :: (Value.int (0 : Int) (0 : Nat)) :: (Value.ref (20 : Nat)) :: (Value.int (5 : Int) (0 : Nat)) :: (Value.int (0 : Int) (0 : Nat)) :: (Value.ref (27 : Nat)) :: (Value.int (12 : Int) (0 : Nat)) :: (Value.int (0 : Int) (0 : Nat)) :: (Value.ref (54 : Nat)) :: (Value.int (17 : Int) (0 : Nat)) :: (Value.int (0 : Int) (0 : Nat)) :: (Value.ref (76 : Nat)) :: (Value.int (22 : Int) (0 : Nat)) :: (Value.int (0 : Int) (0 : Nat)) :: (Value.ref (83 : Nat)) :: (Value.int (25 : Int) (0 : Nat)) :: (Value.int (0 : Int) (0 : Nat)) :: (Value.ref (90 : Nat)) :: (Value.int (39 : Int) (0 : Nat)) :: (Value.int (0 : Int) (0 : Nat)) :: (Value.ref (125 : Nat)) :: (Value.int (58 : Int) (0 : Nat)) :: (Value.int (0 : Int) (0 : Nat)) :: (Value.ref (167 : Nat)) :: (Value.int (60 : Int) (0 : Nat)) :: (Value.int (0 : Int) (0 : Nat)) :: (Value.ref (175 : Nat)) :: []))) (List.toArray []))
  (Obj.mk (Value.type "tuple") none (Data.seq (List.toArray []) (0 : Nat)) (List.toArray []))
  (Obj.mk (Value.type "builtin_function_or_method") none (Data.fields (List.toArray [(Value.builtin "type.__prepare__"), (Value.type "type")])) (List.toArray []))
  (Obj.mk (Value.type "dict") none (Data.dict (List.toArray ((DictEntry.mk (PyData.keyHash P (Str.ofString "__module__")) (Value.str (Str.ofString "__module__") (350 : Nat)) (Value.str (Str.ofString "emacs.byteunit") (295 : Nat))) :: (DictEntry.mk (PyData.keyHash P (Str.ofString "__qualname__")) (Value.str (Str.ofString "__qualname__") (352 : Nat)) (Value.str (Str.ofString "Unit") (351 : Nat))) :: (DictEntry.mk (PyData.keyHash P (Str.ofString "__firstlineno__")) (Value.str (Str.ofString "__firstlineno__") (354 : Nat)) (Value.int (39 : Int) (353 : Nat))) :: (DictEntry.mk (PyData.keyHash P (Str.ofString "__init__")) (Value.str (Str.ofString "__init__") (361 : Nat)) (Value.ref (133 : Nat))) :: (DictEntry.mk (PyData.keyHash P (Str.ofString "label")) (Value.str (Str.ofString "label") (368 : Nat)) (Value.ref (140 : Nat))) :: (DictEntry.mk (PyData.keyHash P (Str.ofString "emit")) (Value.str (Str.ofString "emit") (377 : Nat)) (Value.ref (147 : Nat))) :: (DictEntry.mk (PyData.keyHash P (Str.ofString "do_all")) (Value.str (Str.ofString "do_all") (386 : Nat)) (Value.ref (154 : Nat))) :: (DictEntry.mk (PyData.keyHash P (Str.ofString "__static_attributes__")) (Value.str (Str.ofString "__static_attributes__") (392 : Nat)) (Value.ref (155 : Nat))) :: [])) (8 : Nat)) (List.toArray []))
  (Obj.mk (Value.type "tuple") none (Data.seq (List.toArray []) (0 : Nat)) (List.toArray []))
  (Obj.mk .none none (Data.fields (List.toArray ((Value.int (41 : Int) (0 : Nat)) :: (Value.int (4 : Int) (0 : Nat)) :: (Value.ref (132 : Nat)) :: (Value.int (48 : Int) (0 : Nat)) :: (Value.int (4 : Int) (0 : Nat)) :: (Value.ref (139 : Nat)) :: (Value.int (52 : Int) (0 : Nat)) :: (Value.int (4 : Int) (0 : Nat)) :: (Value.ref (146 : Nat)) :: (Value.int (55 : Int) (0 : Nat)) :: (Value.int (4 : Int) (0 : Nat)) :: (Value.ref (153 : Nat)) :: []))) (List.toArray []))
  (Obj.mk (Value.type "code") none (Data.fields (List.toArray ((Value.str (Str.ofString "Unit") (345 : Nat)) :: (Value.str (Str.ofString "Unit") (346 : Nat)) :: (Value.str (Str.ofString "/claim/cut.py") (347 : Nat)) :: (Value.int (39 : Int) (0 : Nat)) :: (Value.int (0 : Int) (0 : Nat)) :: (Value.int (0 : Int) (0 : Nat)) :: (Value.int (0 : Int) (0 : Nat)) :: (Value.int (0 : Int) (0 : Nat)) :: (Value.ref (123 : Nat)) :: (Value.bool Bool.false) :: (Value.int (181 : Int) (0 : Nat)) :: (Value.ref (124 : Nat)) :: .none :: .none :: .none :: .none :: (Value.int (348 : Int) (0 : Nat)) :: (Value.int (39 : Int) (0 : Nat)) :: (Value.str (Str.ofString "/claim/cut.py") (349 : Nat)) :: []))) (List.toArray []))
  (Obj.mk (Value.type "frame") none .plain (List.toArray ((some (Value.ref (125 : Nat))) :: (some (Value.ref (3 : Nat))) :: (some (Value.ref (122 : Nat))) :: none :: (some (Value.str (Str.ofString "emacs.byteunit") (295 : Nat))) :: none :: (some (Value.ref (0 : Nat))) :: [])))
  (Obj.mk (Value.type "tuple") none (Data.seq (List.toArray []) (0 : Nat)) (List.toArray []))
  (Obj.mk .none none (Data.fields (List.toArray [])) (List.toArray []))
  (Obj.mk (Value.type "tuple") none (Data.seq (List.toArray [(Value.str (Str.ofString "self") (358 : Nat))]) (0 : Nat)) (List.toArray []))
  (Obj.mk (Value.type "tuple") none (Data.seq (List.toArray []) (0 : Nat)) (List.toArray []))
  (Obj.mk .none none (Data.func (FuncData.mk (Str.ofString "__init__") (Str.ofString "Unit.__init__") pA8 (FuncBody.stmts pB8) pS8 (0 : Nat) [] .none .none .none .none none .none .none (0 : Nat))) (List.toArray []))
  (Obj.mk (Value.type "code") none (Data.fields (List.toArray ((Value.str (Str.ofString "__init__") (355 : Nat)) :: (Value.str (Str.ofString "Unit.__init__") (356 : Nat)) :: (Value.str (Str.ofString "/claim/cut.py") (357 : Nat)) :: (Value.int (41 : Int) (0 : Nat)) :: (Value.int (1 : Int) (0 : Nat)) :: (Value.int (0 : Int) (0 : Nat)) :: (Value.int (0 : Int) (0 : Nat)) :: (Value.int (3 : Int) (0 : Nat)) :: (Value.ref (127 : Nat)) :: (Value.bool Bool.true) :: (Value.int (181 : Int) (0 : Nat)) :: (Value.ref (128 : Nat)) :: .none :: (Value.ref (129 : Nat)) :: (Value.ref (130 : Nat)) :: (Value.ref (131 : Nat)) :: (Value.int (359 : Int) (0 : Nat)) :: (Value.int (41 : Int) (0 : Nat)) :: (Value.str (Str.ofString "/claim/cut.py") (360 : Nat)) :: []))) (List.toArray []))
  (Obj.mk (Value.type "function") none (Data.func (FuncData.mk (Str.ofString "__init__") (Str.ofString "Unit.__init__") pA8 (FuncBody.stmts pB8) pS8 (3 : Nat) [] .none .none .none (Value.str (Str.ofString "emacs.byteunit") (295 : Nat)) none (Value.ref (132 : Nat)) .none (0 : Nat))) (List.toArray []))
  (Obj.mk (Value.type "tuple") none (Data.seq (List.toArray []) (0 : Nat)) (List.toArray []))
  (Obj.mk .none none (Data.fields (List.toArray [])) (List.toArray []))
  (Obj.mk (Value.type "tuple") none (Data.seq (List.toArray [(Value.str (Str.ofString "self") (365 : Nat))]) (0 : Nat)) (List.toArray []))
  (Obj.mk (Value.type "tuple") none (Data.seq (List.toArray []) (0 : Nat)) (List.toArray []))
  (Obj.mk .none none (Data.func (FuncData.mk (Str.ofString "label") (Str.ofString "Unit.label") pA9 (FuncBody.stmts pB9) pS5 (0 : Nat) [] .none .none .none .none none .none .none (0 : Nat))) (List.toArray []))
  (Obj.mk (Value.type "code") none (Data.fields (List.toArray ((Value.str (Str.ofString "label") (362 : Nat)) :: (Value.str (Str.ofString "Unit.label") (363 : Nat)) :: (Value.str (Str.ofString "/claim/cut.py") (364 : Nat)) :: (Value.int (48 : Int) (0 : Nat)) :: (Value.int (1 : Int) (0 : Nat)) :: (Value.int (0 : Int) (0 : Nat)) :: (Value.int (0 : Int) (0 : Nat)) :: (Value.int (3 : Int) (0 : Nat)) :: (Value.ref (134 : Nat)) :: (Value.bool Bool.true) :: (Value.int (181 : Int) (0 : Nat)) :: (Value.ref (135 : Nat)) :: .none :: (Value.ref (136 : Nat)) :: (Value.ref (137 : Nat)) :: (Value.ref (138 : Nat)) :: (Value.int (366 : Int) (0 : Nat)) :: (Value.int (48 : Int) (0 : Nat)) :: (Value.str (Str.ofString "/claim/cut.py") (367 : Nat)) :: []))) (List.toArray []))
  (Obj.mk (Value.type "function") none (Data.func (FuncData.mk (Str.ofString "label") (Str.ofString "Unit.label") pA9 (FuncBody.stmts pB9) pS5 (3 : Nat) [] .none .none .none (Value.str (Str.ofString "emacs.byteunit") (295 : Nat)) none (Value.ref (139 : Nat)) .none (0 : Nat))) (List.toArray []))
  (Obj.mk (Value.type "tuple") none (Data.seq (List.toArray []) (0 : Nat)) (List.toArray []))
  (Obj.mk .none none (Data.fields (List.toArray [])) (List.toArray []))
  (Obj.mk (Value.type "tuple") none (Data.seq (List.toArray [(Value.str (Str.ofString "self") (372 : Nat)), (Value.str (Str.ofString "word") (373 : Nat)), (Value.str (Str.ofString "operand") (374 : Nat))]) (0 : Nat)) (List.toArray []))
  (Obj.mk (Value.type "tuple") none (Data.seq (List.toArray []) (0 : Nat)) (List.toArray []))
  (Obj.mk .none none (Data.func (FuncData.mk (Str.ofString "emit") (Str.ofString "Unit.emit") pA10 (FuncBody.stmts pB10) pS10 (0 : Nat) [] .none .none .none .none none .none .none (0 : Nat))) (List.toArray []))
  (Obj.mk (Value.type "code") none (Data.fields (List.toArray ((Value.str (Str.ofString "emit") (369 : Nat)) :: (Value.str (Str.ofString "Unit.emit") (370 : Nat)) :: (Value.str (Str.ofString "/claim/cut.py") (371 : Nat)) :: (Value.int (52 : Int) (0 : Nat)) :: (Value.int (3 : Int) (0 : Nat)) :: (Value.int (0 : Int) (0 : Nat)) :: (Value.int (0 : Int) (0 : Nat)) :: (Value.int (3 : Int) (0 : Nat)) :: (Value.ref (141 : Nat)) :: (Value.bool Bool.true) :: (Value.int (181 : Int) (0 : Nat)) :: (Value.ref (142 : Nat)) :: .none :: (Value.ref (143 : Nat)) :: (Value.ref (144 : Nat)) :: (Value.ref (145 : Nat)) :: (Value.int (375 : Int) (0 : Nat)) :: (Value.int (52 : Int) (0 : Nat)) :: (Value.str (Str.ofString "/claim/cut.py") (376 : Nat)) :: []))) (List.toArray []))
  (Obj.mk (Value.type "function") none (Data.func (FuncData.mk (Str.ofString "emit") (Str.ofString "Unit.emit") pA10 (FuncBody.stmts pB10) pS10 (3 : Nat) [] .none .none .none (Value.str (Str.ofString "emacs.byteunit") (295 : Nat)) none (Value.ref (146 : Nat)) .none (0 : Nat))) (List.toArray []))
  (Obj.mk (Value.type "tuple") none (Data.seq (List.toArray []) (0 : Nat)) (List.toArray []))
  (Obj.mk .none none (Data.fields (List.toArray [])) (List.toArray []))
  (Obj.mk (Value.type "tuple") none (Data.seq (List.toArray [(Value.str (Str.ofString "self") (381 : Nat)), (Value.str (Str.ofString "tasks") (382 : Nat)), (Value.str (Str.ofString "task") (383 : Nat))]) (0 : Nat)) (List.toArray []))
  (Obj.mk (Value.type "tuple") none (Data.seq (List.toArray []) (0 : Nat)) (List.toArray []))
  (Obj.mk .none none (Data.func (FuncData.mk (Str.ofString "do_all") (Str.ofString "Unit.do_all") pA11 (FuncBody.stmts pB11) pS11 (0 : Nat) [] .none .none .none .none none .none .none (0 : Nat))) (List.toArray []))
  (Obj.mk (Value.type "code") none (Data.fields (List.toArray ((Value.str (Str.ofString "do_all") (378 : Nat)) :: (Value.str (Str.ofString "Unit.do_all") (379 : Nat)) :: (Value.str (Str.ofString "/claim/cut.py") (380 : Nat)) :: (Value.int (55 : Int) (0 : Nat)) :: (Value.int (2 : Int) (0 : Nat)) :: (Value.int (0 : Int) (0 : Nat)) :: (Value.int (0 : Int) (0 : Nat)) :: (Value.int (3 : Int) (0 : Nat)) :: (Value.ref (148 : Nat)) :: (Value.bool Bool.true) :: (Value.int (181 : Int) (0 : Nat)) :: (Value.ref (149 : Nat)) :: .none :: (Value.ref (150 : Nat)) :: (Value.ref (151 : Nat)) :: (Value.ref (152 : Nat)) :: (Value.int (384 : Int) (0 : Nat)) :: (Value.int (55 : Int) (0 : Nat)) :: (Value.str (Str.ofString "/claim/cut.py") (385 : Nat)) :: []))) (List.toArray []))
  (Obj.mk (Value.type "function") none (Data.func (FuncData.mk (Str.ofString "do_all") (Str.ofString "Unit.do_all") pA11 (FuncBody.stmts pB11) pS11 (3 : Nat) [] .none .none .none (Value.str (Str.ofString "emacs.byteunit") (295 : Nat)) none (Value.ref (153 : Nat)) .none (0 : Nat))) (List.toArray []))
  (Obj.mk (Value.type "tuple") none (Data.seq (List.toArray [(Value.str (Str.ofString "constants") (387 : Nat)), (Value.str (Str.ofString "labels") (388 : Nat)), (Value.str (Str.ofString "later") (389 : Nat)), (Value.str (Str.ofString "lines") (390 : Nat)), (Value.str (Str.ofString "tasks") (391 : Nat))]) (0 : Nat)) (List.toArray []))
  (Obj.mk (Value.type "dict") none (Data.dict (List.toArray ((DictEntry.mk (PyData.keyHash P (Str.ofString "__module__")) (Value.str (Str.ofString "__module__") (350 : Nat)) (Value.str (Str.ofString "emacs.byteunit") (295 : Nat))) :: (DictEntry.mk (PyData.keyHash P (Str.ofString "__firstlineno__")) (Value.str (Str.ofString "__firstlineno__") (354 : Nat)) (Value.int (39 : Int) (353 : Nat))) :: (DictEntry.mk (PyData.keyHash P (Str.ofString "__init__")) (Value.str (Str.ofString "__init__") (361 : Nat)) (Value.ref (133 : Nat))) :: (DictEntry.mk (PyData.keyHash P (Str.ofString "label")) (Value.str (Str.ofString "label") (368 : Nat)) (Value.ref (140 : Nat))) :: (DictEntry.mk (PyData.keyHash P (Str.ofString "emit")) (Value.str (Str.ofString "emit") (377 : Nat)) (Value.ref (147 : Nat))) :: (DictEntry.mk (PyData.keyHash P (Str.ofString "do_all")) (Value.str (Str.ofString "do_all") (386 : Nat)) (Value.ref (154 : Nat))) :: (DictEntry.mk (PyData.keyHash P (Str.ofString "__static_attributes__")) (Value.str (Str.ofString "__static_attributes__") (392 : Nat)) (Value.ref (155 : Nat))) :: (DictEntry.mk (PyData.keyHash P (Str.ofString "__dict__")) (Value.str (Str.ofString "__dict__") (394 : Nat)) (Value.ref (158 : Nat))) :: (DictEntry.mk (PyData.keyHash P (Str.ofString "__weakref__")) (Value.str (Str.ofString "__weakref__") (396 : Nat)) (Value.ref (159 : Nat))) :: (DictEntry.mk (PyData.keyHash P (Str.ofString "__doc__")) (Value.str (Str.ofString "__doc__") (397 : Nat)) .none) :: [])) (4 : Nat)) (List.toArray []))
  (Obj.mk (Value.type "type") none (Data.cls (ClassData.mk (Str.ofString "Unit") [(Value.type "object")] [(Value.ref (157 : Nat)), (Value.type "object")] (156 : Nat) (Str.ofString "Unit") Bool.true [] [] Bool.false none Bool.false)) (List.toArray [none, none, (some (Value.str (Str.ofString "Unit") (343 : Nat))), (some (Value.str (Str.ofString "Unit") (351 : Nat))), (some (Value.builtin "object.__new__")), (some (Value.bool Bool.true))]))
  (Obj.mk (Value.type "getset_descriptor") none (Data.fields (List.toArray [(Value.str (Str.ofString "__dict__") (393 : Nat)), (Value.ref (157 : Nat)), (Value.builtin "function.__dict__"), (Value.builtin "function.__dict__#set")])) (List.toArray []))
  (Obj.mk (Value.type "getset_descriptor") none (Data.fields (List.toArray [(Value.str (Str.ofString "__weakref__") (395 : Nat)), (Value.ref (157 : Nat)), (Value.builtin "ExceptionGroup.__weakref__"), .none])) (List.toArray []))
  (Obj.mk (Value.type "super") none (Data.fields (List.toArray [(Value.ref (157 : Nat)), (Value.ref (157 : Nat)), (Value.ref (157 : Nat))])) (List.toArray []))
  (Obj.mk (Value.type "builtin_function_or_method") none (Data.fields (List.toArray [(Value.builtin "object.__init_subclass__"), (Value.ref (157 : Nat))])) (List.toArray []))
  (Obj.mk (Value.type "tuple") none (Data.seq (List.toArray []) (0 : Nat)) (List.toArray []))
  (Obj.mk .none none (Data.fields (List.toArray [])) (List.toArray []))
  (Obj.mk (Value.type "tuple") none (Data.seq (List.toArray [(Value.str (Str.ofString "form") (403 : Nat)), (Value.str (Str.ofString "wanted") (404 : Nat))]) (0 : Nat)) (List.toArray []))
  (Obj.mk (Value.type "tuple") none (Data.seq (List.toArray []) (0 : Nat)) (List.toArray []))
  (Obj.mk .none none (Data.func (FuncData.mk (Str.ofString "form_task") (Str.ofString "form_task") pA12 (FuncBody.stmts pB12) pS12 (0 : Nat) [] .none .none .none .none none .none .none (0 : Nat))) (List.toArray []))
  (Obj.mk (Value.type "code") none (Data.fields (List.toArray ((Value.str (Str.ofString "form_task") (400 : Nat)) :: (Value.str (Str.ofString "form_task") (401 : Nat)) :: (Value.str (Str.ofString "/claim/cut.py") (402 : Nat)) :: (Value.int (58 : Int) (0 : Nat)) :: (Value.int (2 : Int) (0 : Nat)) :: (Value.int (0 : Int) (0 : Nat)) :: (Value.int (0 : Int) (0 : Nat)) :: (Value.int (3 : Int) (0 : Nat)) :: (Value.ref (162 : Nat)) :: (Value.bool Bool.true) :: (Value.int (181 : Int) (0 : Nat)) :: (Value.ref (163 : Nat)) :: .none :: (Value.ref (164 : Nat)) :: (Value.ref (165 : Nat)) :: (Value.ref (166 : Nat)) :: (Value.int (405 : Int) (0 : Nat)) :: (Value.int (58 : Int) (0 : Nat)) :: (Value.str (Str.ofString "/claim/cut.py") (406 : Nat)) :: []))) (List.toArray []))
  (Obj.mk (Value.type "function") none (Data.func (FuncData.mk (Str.ofString "form_task") (Str.ofString "form_task") pA12 (FuncBody.stmts pB12) pS12 (3 : Nat) [] .none .none .none (Value.str (Str.ofString "emacs.byteunit") (295 : Nat)) none (Value.ref (167 : Nat)) .none (0 : Nat))) (List.toArray []))
  (Obj.mk (Value.type "tuple") none (Data.seq (List.toArray [(Value.int (-(1 : Int) : Int) (409 : Nat))]) (0 : Nat)) (List.toArray []))
  (Obj.mk (Value.type "tuple") none (Data.seq (List.toArray []) (0 : Nat)) (List.toArray []))
  (Obj.mk .none none (Data.fields (List.toArray [])) (List.toArray []))
  (Obj.mk (Value.type "tuple") none (Data.seq (List.toArray [(Value.str (Str.ofString "word") (413 : Nat)), (Value.str (Str.ofString "operand") (414 : Nat))]) (0 : Nat)) (List.toArray []))
  (Obj.mk (Value.type "tuple") none (Data.seq (List.toArray []) (0 : Nat)) (List.toArray []))
  (Obj.mk .none none (Data.func (FuncData.mk (Str.ofString "line_task") (Str.ofString "line_task") pA13 (FuncBody.stmts pB13) pS13 (0 : Nat) [] .none .none .none .none none .none .none (0 : Nat))) (List.toArray []))
  (Obj.mk (Value.type "code") none (Data.fields (List.toArray ((Value.str (Str.ofString "line_task") (410 : Nat)) :: (Value.str (Str.ofString "line_task") (411 : Nat)) :: (Value.str (Str.ofString "/claim/cut.py") (412 : Nat)) :: (Value.int (60 : Int) (0 : Nat)) :: (Value.int (2 : Int) (0 : Nat)) :: (Value.int (0 : Int) (0 : Nat)) :: (Value.int (0 : Int) (0 : Nat)) :: (Value.int (3 : Int) (0 : Nat)) :: (Value.ref (170 : Nat)) :: (Value.bool Bool.true) :: (Value.int (181 : Int) (0 : Nat)) :: (Value.ref (171 : Nat)) :: .none :: (Value.ref (172 : Nat)) :: (Value.ref (173 : Nat)) :: (Value.ref (174 : Nat)) :: (Value.int (415 : Int) (0 : Nat)) :: (Value.int (60 : Int) (0 : Nat)) :: (Value.str (Str.ofString "/claim/cut.py") (416 : Nat)) :: []))) (List.toArray []))
  (Obj.mk (Value.type "function") none (Data.func (FuncData.mk (Str.ofString "line_task") (Str.ofString "line_task") pA13 (FuncBody.stmts pB13) pS13 (3 : Nat) [] (Value.ref (169 : Nat)) .none .none (Value.str (Str.ofString "emacs.byteunit") (295 : Nat)) none (Value.ref (175 : Nat)) .none (0 : Nat))) (List.toArray []))
/-- the new objects of a piece, handed to k -/
noncomputable def new_28 (β : Type) (k : Obj → Obj → Obj → Obj → Obj → Obj → Obj → Obj → Obj → Obj → Obj → Obj → Obj → Obj → Obj → Obj → Obj → Obj → Obj → Obj → Obj → Obj → Obj → Obj → Obj → Obj → Obj → Obj → Obj → Obj → Obj → Obj → Obj → Obj → Obj → Obj → Obj → Obj → Obj → Obj → Obj → Obj → Obj → Obj → Obj → Obj → Obj → Obj → Obj → Obj → Obj → Obj → Obj → Obj → Obj → Obj → Obj → Obj → Obj → Obj → Obj → Obj → Obj → Obj → Obj → Obj → Obj → Obj → Obj → Obj → Obj → Obj → Obj → Obj → Obj → Obj → Obj → Obj → Obj → Obj → Obj → Obj → Obj → Obj → β) (P : Params) : β := k
  (Obj.mk (Value.type "dict") none (Data.dict (List.toArray ((DictEntry.mk (PyData.keyHash P (Str.ofString "__name__")) (Value.str (Str.ofString "__name__") (165 : Nat)) (Value.str (Str.ofString "law_ok0047_01") (457 : Nat))) :: (DictEntry.mk (PyData.keyHash P (Str.ofString "__doc__")) (Value.str (Str.ofString "__doc__") (166 : Nat)) .none) :: (DictEntry.mk (PyData.keyHash P (Str.ofString "__package__")) (Value.str (Str.ofString "__package__") (167 : Nat)) .none) :: (DictEntry.mk (PyData.keyHash P (Str.ofString "__loader__")) (Value.str (Str.ofString "__loader__") (168 : Nat)) (Value.builtin "__main__.__loader__#opaque")) :: (DictEntry.mk (PyData.keyHash P (Str.ofString "__spec__")) (Value.str (Str.ofString "__spec__") (169 : Nat)) .none) :: (DictEntry.mk (PyData.keyHash P (Str.ofString "__annotations__")) (Value.str (Str.ofString "__annotations__") (170 : Nat)) (Value.ref (6 : Nat))) :: (DictEntry.mk (PyData.keyHash P (Str.ofString "__builtins__")) (Value.str (Str.ofString "__builtins__") (171 : Nat)) (Value.ref (4 : Nat))) :: (DictEntry.mk (PyData.keyHash P (Str.ofString "__file__")) (Value.str (Str.ofString "__file__") (173 : Nat)) (Value.str (Str.ofString "/claim/cut.py") (172 : Nat))) :: (DictEntry.mk (PyData.keyHash P (Str.ofString "__cached__")) (Value.str (Str.ofString "__cached__") (174 : Nat)) .none) :: (DictEntry.mk (PyData.keyHash P (Str.ofString "_wall")) (Value.str (Str.ofString "_wall") (193 : Nat)) (Value.ref (21 : Nat))) :: (DictEntry.mk (PyData.keyHash P (Str.ofString "Symbol")) (Value.str (Str.ofString "Symbol") (226 : Nat)) (Value.ref (38 : Nat))) :: (DictEntry.mk (PyData.keyHash P (Str.ofString "NIL")) (Value.str (Str.ofString "NIL") (236 : Nat)) (Value.ref (44 : Nat))) :: (DictEntry.mk (PyData.keyHash P (Str.ofString "T")) (Value.str (Str.ofString "T") (246 : Nat)) (Value.ref (47 : Nat))) :: (DictEntry.mk (PyData.keyHash P (Str.ofString "Cons")) (Value.str (Str.ofString "Cons") (277 : Nat)) (Value.ref (65 : Nat))) :: (DictEntry.mk (PyData.keyHash P (Str.ofString "list_of")) (Value.str (Str.ofString "list_of") (287 : Nat)) (Value.ref (77 : Nat))) :: (DictEntry.mk (PyData.keyHash P (Str.ofString "is_whole")) (Value.str (Str.ofString "is_whole") (294 : Nat)) (Value.ref (84 : Nat))) :: (DictEntry.mk (PyData.keyHash P (Str.ofString "Constants")) (Value.str (Str.ofString "Constants") (342 : Nat)) (Value.ref (115 : Nat))) :: (DictEntry.mk (PyData.keyHash P (Str.ofString "Unit")) (Value.str (Str.ofString "Unit") (399 : Nat)) (Value.ref (157 : Nat))) :: (DictEntry.mk (PyData.keyHash P (Str.ofString "form_task")) (Value.str (Str.ofString "form_task") (407 : Nat)) (Value.ref (168 : Nat))) :: (DictEntry.mk (PyData.keyHash P (Str.ofString "line_task")) (Value.str (Str.ofString "line_task") (417 : Nat)) (Value.ref (176 : Nat))) :: (DictEntry.mk (PyData.keyHash P (Str.ofString "constant_task")) (Value.str (Str.ofString "constant_task") (424 : Nat)) (Value.ref (183 : Nat))) :: (DictEntry.mk (PyData.keyHash P (Str.ofString "body_tasks")) (Value.str (Str.ofString "body_tasks") (430 : Nat)) (Value.ref (188 : Nat))) :: (DictEntry.mk (PyData.keyHash P (Str.ofString "dropped")) (Value.str (Str.ofString "dropped") (437 : Nat)) (Value.ref (195 : Nat))) :: (DictEntry.mk (PyData.keyHash P (Str.ofString "binding_parts")) (Value.str (Str.ofString "binding_parts") (444 : Nat)) (Value.ref (202 : Nat))) :: (DictEntry.mk (PyData.keyHash P (Str.ofString "are_unlike")) (Value.str (Str.ofString "are_unlike") (450 : Nat)) (Value.ref (207 : Nat))) :: (DictEntry.mk (PyData.keyHash P (Str.ofString "pairs_of")) (Value.str (Str.ofString "pairs_of") (456 : Nat)) (Value.ref (212 : Nat))) :: (DictEntry.mk (PyData.keyHash P (Str.ofString "_law_pot")) (Value.str (Str.ofString "_law_pot") (464 : Nat)) (Value.ref (217 : Nat))) :: (DictEntry.mk (PyData.keyHash P (Str.ofString "_law_dip")) (Value.str (Str.ofString "_law_dip") (473 : Nat)) (Value.ref (224 : Nat))) :: (DictEntry.mk (PyData.keyHash P (Str.ofString "_law_tree")) (Value.str (Str.ofString "_law_tree") (479 : Nat)) (Value.ref (229 : Nat))) :: (DictEntry.mk (PyData.keyHash P (Str.ofString "_law_flat")) (Value.str (Str.ofString "_law_flat") (488 : Nat)) (Value.ref (236 : Nat))) :: (DictEntry.mk (PyData.keyHash P (Str.ofString "_law_is_body")) (Value.str (Str.ofString "_law_is_body") (494 : Nat)) (Value.ref (241 : Nat))) :: (DictEntry.mk (PyData.keyHash P (Str.ofString "_law_is_store")) (Value.str (Str.ofString "_law_is_store") (500 : Nat)) (Value.ref (246 : Nat))) :: (DictEntry.mk (PyData.keyHash P (Str.ofString "_law_is_binding")) (Value.str (Str.ofString "_law_is_binding") (513 : Nat)) (Value.ref (253 : Nat))) :: (DictEntry.mk (PyData.keyHash P (Str.ofString "law")) (Value.str (Str.ofString "law") (519 : Nat)) (Value.ref (258 : Nat))) :: [])) (34 : Nat)) (List.toArray []))
  (Obj.mk .none none (Data.fields (List.toArray ((Value.int (1 : Int) (0 : Nat)) :: (Value.int (0 : Int) (0 : Nat)) :: (Value.ref (20 : Nat)) :: (Value.int (5 : Int) (0 : Nat)) :: (Value.int (0 : Int) (0 : Nat)) :: (Value.ref (27 : Nat)) :: (Value.int (12 : Int) (0 : Nat)) :: (Value.int (0 : Int) (0 : Nat)) :: (Value.ref (54 : Nat)) :: (Value.int (17 : Int) (0 : Nat)) :: (Value.int (0 : Int) (0 : Nat)) :: (Value.ref (76 : Nat)) :: (Value.int (22 : Int) (0 : Nat)) :: (Value.int (0 : Int) (0 : Nat)) :: (Value.ref (83 : Nat)) :: (Value.int (25 : Int) (0 : Nat)) :: (Value.int (0 : Int) (0 : Nat)) :: (Value.ref (90 : Nat)) :: (Value.int (39 : Int) (0 : Nat)) :: (Value.int (0 : Int) (0 : Nat)) :: (Value.ref (125 : Nat)) :: (Value.int (58 : Int) (0 : Nat)) :: (Value.int (0 : Int) (0 : Nat)) :: (Value.ref (167 : Nat)) :: (Value.int (60 : Int) (0 : Nat)) :: (Value.int (0 : Int) (0 : Nat)) :: (Value.ref (175 : Nat)) :: (Value.int (62 : Int) (0 : Nat)) :: (Value.int (0 : Int) (0 : Nat)) :: (Value.ref (182 : Nat)) :: (Value.int (64 : Int) (0 : Nat)) :: (Value.int (0 : Int) (0 : Nat)) :: (Value.ref (187 : Nat)) :: (Value.int (68 : Int) (0 : Nat)) :: (Value.int (0 : Int) (0 : Nat)) :: (Value.ref (194 : Nat)) :: (Value.int (70 : Int) (0 : Nat)) :: (Value.int (0 : Int) (0 : Nat)) :: (Value.ref (201 : Nat)) :: (Value.int (80 : Int) (0 : Nat)) :: (Value.int (0 : Int) (0 : Nat)) :: (Value.ref (206 : Nat)) :: (Value.int (82 : Int) (0 : Nat)) :: (Value.int (0 : Int) (0 : Nat)) :: (Value.ref (211 : Nat)) :: (Value.int (85 : Int) (0 : Nat)) :: (Value.int (0 : Int) (0 : Nat)) :: (Value.ref (216 : Nat)) :: (Value.int (87 : Int) (0 : Nat)) :: (Value.int (0 : Int) (0 : Nat)) :: (Value.ref (223 : Nat)) :: (Value.int (94 : Int) (0 : Nat)) :: (Value.int (0 : Int) (0 : Nat)) :: (Value.ref (228 : Nat)) :: (Value.int (98 : Int) (0 : Nat)) :: (Value.int (0 : Int) (0 : Nat)) :: (Value.ref (235 : Nat)) :: (Value.int (105 : Int) (0 : Nat)) :: (Value.int (0 : Int) (0 : Nat)) :: (Value.ref (240 : Nat)) :: (Value.int (113 : Int) (0 : Nat)) :: (Value.int (0 : Int) (0 : Nat)) :: (Value.ref (245 : Nat)) :: (Value.int (126 : Int) (0 : Nat)) :: (Value.int (0 : Int) (0 : Nat)) :: (Value.ref (252 : Nat)) :: (Value.int (133 : Int) (0 : Nat)) :: (Value.int (0 : Int) (0 : Nat)) :: (Value.ref (257 : Nat)) :: []))) (List.toArray []))
  (Obj.mk (Value.type "tuple") none (Data.seq (List.toArray []) (0 : Nat)) (List.toArray []))
  (Obj.mk .none none (Data.fields (List.toArray [])) (List.toArray []))
  (Obj.mk (Value.type "tuple") none (Data.seq (List.toArray [(Value.str (Str.ofString "value") (421 : Nat))]) (0 : Nat)) (List.toArray []))
  (Obj.mk (Value.type "tuple") none (Data.seq (List.toArray []) (0 : Nat)) (List.toArray []))
  (Obj.mk .none none (Data.func (FuncData.mk (Str.ofString "constant_task") (Str.ofString "constant_task") pA14 (FuncBody.stmts pB14) pS14 (0 : Nat) [] .none .none .none .none none .none .none (0 : Nat))) (List.toArray []))
  (Obj.mk (Value.type "code") none (Data.fields (List.toArray ((Value.str (Str.ofString "constant_task") (418 : Nat)) :: (Value.str (Str.ofString "constant_task") (419 : Nat)) :: (Value.str (Str.ofString "/claim/cut.py") (420 : Nat)) :: (Value.int (62 : Int) (0 : Nat)) :: (Value.int (1 : Int) (0 : Nat)) :: (Value.int (0 : Int) (0 : Nat)) :: (Value.int (0 : Int) (0 : Nat)) :: (Value.int (3 : Int) (0 : Nat)) :: (Value.ref (177 : Nat)) :: (Value.bool Bool.true) :: (Value.int (181 : Int) (0 : Nat)) :: (Value.ref (178 : Nat)) :: .none :: (Value.ref (179 : Nat)) :: (Value.ref (180 : Nat)) :: (Value.ref (181 : Nat)) :: (Value.int (422 : Int) (0 : Nat)) :: (Value.int (62 : Int) (0 : Nat)) :: (Value.str (Str.ofString "/claim/cut.py") (423 : Nat)) :: []))) (List.toArray []))
  (Obj.mk (Value.type "function") none (Data.func (FuncData.mk (Str.ofString "constant_task") (Str.ofString "constant_task") pA14 (FuncBody.stmts pB14) pS14 (3 : Nat) [] .none .none .none (Value.str (Str.ofString "emacs.byteunit") (295 : Nat)) none (Value.ref (182 : Nat)) .none (0 : Nat))) (List.toArray []))
  (Obj.mk (Value.type "tuple") none (Data.seq (List.toArray []) (0 : Nat)) (List.toArray []))
  (Obj.mk .none none (Data.fields (List.toArray [])) (List.toArray []))
  (Obj.mk .none none (Data.func (FuncData.mk (Str.ofString "body_tasks") (Str.ofString "body_tasks") pA15 (FuncBody.stmts pB15) pS15 (0 : Nat) [] .none .none .none .none none .none .none (0 : Nat))) (List.toArray []))
  (Obj.mk (Value.type "code") none (Data.fields (List.toArray ((Value.str (Str.ofString "body_tasks") (425 : Nat)) :: (Value.str (Str.ofString "body_tasks") (426 : Nat)) :: (Value.str (Str.ofString "/claim/cut.py") (427 : Nat)) :: (Value.int (64 : Int) (0 : Nat)) :: (Value.int (2 : Int) (0 : Nat)) :: (Value.int (0 : Int) (0 : Nat)) :: (Value.int (0 : Int) (0 : Nat)) :: (Value.int (3 : Int) (0 : Nat)) :: (Value.ref (184 : Nat)) :: (Value.bool Bool.true) :: (Value.int (181 : Int) (0 : Nat)) :: (Value.ref (185 : Nat)) :: .none :: .none :: .none :: (Value.ref (186 : Nat)) :: (Value.int (428 : Int) (0 : Nat)) :: (Value.int (64 : Int) (0 : Nat)) :: (Value.str (Str.ofString "/claim/cut.py") (429 : Nat)) :: []))) (List.toArray []))
  (Obj.mk (Value.type "function") none (Data.func (FuncData.mk (Str.ofString "body_tasks") (Str.ofString "body_tasks") pA15 (FuncBody.stmts pB15) pS15 (3 : Nat) [] .none .none .none (Value.str (Str.ofString "emacs.byteunit") (295 : Nat)) none (Value.ref (187 : Nat)) .none (0 : Nat))) (List.toArray []))
  (Obj.mk (Value.type "tuple") none (Data.seq (List.toArray []) (0 : Nat)) (List.toArray []))
  (Obj.mk .none none (Data.fields (List.toArray [])) (List.toArray []))
  (Obj.mk (Value.type "tuple") none (Data.seq (List.toArray [(Value.str (Str.ofString "wanted") (434 : Nat))]) (0 : Nat)) (List.toArray []))
  (Obj.mk (Value.type "tuple") none (Data.seq (List.toArray []) (0 : Nat)) (List.toArray []))
  (Obj.mk .none none (Data.func (FuncData.mk (Str.ofString "dropped") (Str.ofString "dropped") pA16 (FuncBody.stmts pB16) pS16 (0 : Nat) [] .none .none .none .none none .none .none (0 : Nat))) (List.toArray []))
  (Obj.mk (Value.type "code") none (Data.fields (List.toArray ((Value.str (Str.ofString "dropped") (431 : Nat)) :: (Value.str (Str.ofString "dropped") (432 : Nat)) :: (Value.str (Str.ofString "/claim/cut.py") (433 : Nat)) :: (Value.int (68 : Int) (0 : Nat)) :: (Value.int (1 : Int) (0 : Nat)) :: (Value.int (0 : Int) (0 : Nat)) :: (Value.int (0 : Int) (0 : Nat)) :: (Value.int (3 : Int) (0 : Nat)) :: (Value.ref (189 : Nat)) :: (Value.bool Bool.true) :: (Value.int (181 : Int) (0 : Nat)) :: (Value.ref (190 : Nat)) :: .none :: (Value.ref (191 : Nat)) :: (Value.ref (192 : Nat)) :: (Value.ref (193 : Nat)) :: (Value.int (435 : Int) (0 : Nat)) :: (Value.int (68 : Int) (0 : Nat)) :: (Value.str (Str.ofString "/claim/cut.py") (436 : Nat)) :: []))) (List.toArray []))
  (Obj.mk (Value.type "function") none (Data.func (FuncData.mk (Str.ofString "dropped") (Str.ofString "dropped") pA16 (FuncBody.stmts pB16) pS16 (3 : Nat) [] .none .none .none (Value.str (Str.ofString "emacs.byteunit") (295 : Nat)) none (Value.ref (194 : Nat)) .none (0 : Nat))) (List.toArray []))
  (Obj.mk (Value.type "tuple") none (Data.seq (List.toArray []) (0 : Nat)) (List.toArray []))
  (Obj.mk .none none (Data.fields (List.toArray [])) (List.toArray []))
  (Obj.mk (Value.type "tuple") none (Data.seq (List.toArray [(Value.str (Str.ofString "binding") (441 : Nat))]) (0 : Nat)) (List.toArray []))
  (Obj.mk (Value.type "tuple") none (Data.seq (List.toArray []) (0 : Nat)) (List.toArray []))
  (Obj.mk .none none (Data.func (FuncData.mk (Str.ofString "binding_parts") (Str.ofString "binding_parts") pA17 (FuncBody.stmts pB17) pS17 (0 : Nat) [] .none .none .none .none none .none .none (0 : Nat))) (List.toArray []))
  (Obj.mk (Value.type "code") none (Data.fields (List.toArray ((Value.str (Str.ofString "binding_parts") (438 : Nat)) :: (Value.str (Str.ofString "binding_parts") (439 : Nat)) :: (Value.str (Str.ofString "/claim/cut.py") (440 : Nat)) :: (Value.int (70 : Int) (0 : Nat)) :: (Value.int (1 : Int) (0 : Nat)) :: (Value.int (0 : Int) (0 : Nat)) :: (Value.int (0 : Int) (0 : Nat)) :: (Value.int (3 : Int) (0 : Nat)) :: (Value.ref (196 : Nat)) :: (Value.bool Bool.true) :: (Value.int (181 : Int) (0 : Nat)) :: (Value.ref (197 : Nat)) :: .none :: (Value.ref (198 : Nat)) :: (Value.ref (199 : Nat)) :: (Value.ref (200 : Nat)) :: (Value.int (442 : Int) (0 : Nat)) :: (Value.int (70 : Int) (0 : Nat)) :: (Value.str (Str.ofString "/claim/cut.py") (443 : Nat)) :: []))) (List.toArray []))
  (Obj.mk (Value.type "function") none (Data.func (FuncData.mk (Str.ofString "binding_parts") (Str.ofString "binding_parts") pA17 (FuncBody.stmts pB17) pS17 (3 : Nat) [] .none .none .none (Value.str (Str.ofString "emacs.byteunit") (295 : Nat)) none (Value.ref (201 : Nat)) .none (0 : Nat))) (List.toArray []))
  (Obj.mk (Value.type "tuple") none (Data.seq (List.toArray []) (0 : Nat)) (List.toArray []))
  (Obj.mk .none none (Data.fields (List.toArray [])) (List.toArray []))
  (Obj.mk .none none (Data.func (FuncData.mk (Str.ofString "are_unlike") (Str.ofString "are_unlike") pA18 (FuncBody.stmts pB18) pS18 (0 : Nat) [] .none .none .none .none none .none .none (0 : Nat))) (List.toArray []))
  (Obj.mk (Value.type "code") none (Data.fields (List.toArray ((Value.str (Str.ofString "are_unlike") (445 : Nat)) :: (Value.str (Str.ofString "are_unlike") (446 : Nat)) :: (Value.str (Str.ofString "/claim/cut.py") (447 : Nat)) :: (Value.int (80 : Int) (0 : Nat)) :: (Value.int (1 : Int) (0 : Nat)) :: (Value.int (0 : Int) (0 : Nat)) :: (Value.int (0 : Int) (0 : Nat)) :: (Value.int (3 : Int) (0 : Nat)) :: (Value.ref (203 : Nat)) :: (Value.bool Bool.true) :: (Value.int (181 : Int) (0 : Nat)) :: (Value.ref (204 : Nat)) :: .none :: .none :: .none :: (Value.ref (205 : Nat)) :: (Value.int (448 : Int) (0 : Nat)) :: (Value.int (80 : Int) (0 : Nat)) :: (Value.str (Str.ofString "/claim/cut.py") (449 : Nat)) :: []))) (List.toArray []))
  (Obj.mk (Value.type "function") none (Data.func (FuncData.mk (Str.ofString "are_unlike") (Str.ofString "are_unlike") pA18 (FuncBody.stmts pB18) pS18 (3 : Nat) [] .none .none .none (Value.str (Str.ofString "emacs.byteunit") (295 : Nat)) none (Value.ref (206 : Nat)) .none (0 : Nat))) (List.toArray []))
  (Obj.mk (Value.type "tuple") none (Data.seq (List.toArray []) (0 : Nat)) (List.toArray []))
  (Obj.mk .none none (Data.fields (List.toArray [])) (List.toArray []))
  (Obj.mk .none none (Data.func (FuncData.mk (Str.ofString "pairs_of") (Str.ofString "pairs_of") pA19 (FuncBody.stmts pB19) pS19 (0 : Nat) [] .none .none .none .none none .none .none (0 : Nat))) (List.toArray []))
  (Obj.mk (Value.type "code") none (Data.fields (List.toArray ((Value.str (Str.ofString "pairs_of") (451 : Nat)) :: (Value.str (Str.ofString "pairs_of") (452 : Nat)) :: (Value.str (Str.ofString "/claim/cut.py") (453 : Nat)) :: (Value.int (82 : Int) (0 : Nat)) :: (Value.int (1 : Int) (0 : Nat)) :: (Value.int (0 : Int) (0 : Nat)) :: (Value.int (0 : Int) (0 : Nat)) :: (Value.int (3 : Int) (0 : Nat)) :: (Value.ref (208 : Nat)) :: (Value.bool Bool.true) :: (Value.int (181 : Int) (0 : Nat)) :: (Value.ref (209 : Nat)) :: .none :: .none :: .none :: (Value.ref (210 : Nat)) :: (Value.int (454 : Int) (0 : Nat)) :: (Value.int (82 : Int) (0 : Nat)) :: (Value.str (Str.ofString "/claim/cut.py") (455 : Nat)) :: []))) (List.toArray []))
  (Obj.mk (Value.type "function") none (Data.func (FuncData.mk (Str.ofString "pairs_of") (Str.ofString "pairs_of") pA19 (FuncBody.stmts pB19) pS19 (3 : Nat) [] .none .none .none (Value.str (Str.ofString "emacs.byteunit") (295 : Nat)) none (Value.ref (211 : Nat)) .none (0 : Nat))) (List.toArray []))
  (Obj.mk (Value.type "tuple") none (Data.seq (List.toArray []) (0 : Nat)) (List.toArray []))
  (Obj.mk .none none (Data.fields (List.toArray [])) (List.toArray []))
  (Obj.mk .none none (Data.func (FuncData.mk (Str.ofString "_law_pot") (Str.ofString "_law_pot") pA20 (FuncBody.stmts pB20) pS20 (0 : Nat) [] .none .none .none .none none .none .none (0 : Nat))) (List.toArray []))
  (Obj.mk (Value.type "code") none (Data.fields (List.toArray ((Value.str (Str.ofString "_law_pot") (459 : Nat)) :: (Value.str (Str.ofString "_law_pot") (460 : Nat)) :: (Value.str (Str.ofString "/claim/cut.py") (461 : Nat)) :: (Value.int (85 : Int) (0 : Nat)) :: (Value.int (1 : Int) (0 : Nat)) :: (Value.int (0 : Int) (0 : Nat)) :: (Value.int (0 : Int) (0 : Nat)) :: (Value.int (3 : Int) (0 : Nat)) :: (Value.ref (213 : Nat)) :: (Value.bool Bool.true) :: (Value.int (181 : Int) (0 : Nat)) :: (Value.ref (214 : Nat)) :: .none :: .none :: .none :: (Value.ref (215 : Nat)) :: (Value.int (462 : Int) (0 : Nat)) :: (Value.int (85 : Int) (0 : Nat)) :: (Value.str (Str.ofString "/claim/cut.py") (463 : Nat)) :: []))) (List.toArray []))
  (Obj.mk (Value.type "function") none (Data.func (FuncData.mk (Str.ofString "_law_pot") (Str.ofString "_law_pot") pA20 (FuncBody.stmts pB20) pS20 (3 : Nat) [] .none .none .none (Value.str (Str.ofString "law_ok0047_01") (457 : Nat)) none (Value.ref (216 : Nat)) .none (0 : Nat))) (List.toArray []))
  (Obj.mk (Value.type "tuple") none (Data.seq (List.toArray []) (0 : Nat)) (List.toArray []))
  (Obj.mk .none none (Data.fields (List.toArray [])) (List.toArray []))
  (Obj.mk (Value.type "tuple") none (Data.seq (List.toArray [(Value.str (Str.ofString "pot") (468 : Nat)), (Value.str (Str.ofString "many") (469 : Nat)), (Value.str (Str.ofString "at") (470 : Nat))]) (0 : Nat)) (List.toArray []))
  (Obj.mk (Value.type "tuple") none (Data.seq (List.toArray []) (0 : Nat)) (List.toArray []))
  (Obj.mk .none none (Data.func (FuncData.mk (Str.ofString "_law_dip") (Str.ofString "_law_dip") pA21 (FuncBody.stmts pB21) pS21 (0 : Nat) [] .none .none .none .none none .none .none (0 : Nat))) (List.toArray []))
  (Obj.mk (Value.type "code") none (Data.fields (List.toArray ((Value.str (Str.ofString "_law_dip") (465 : Nat)) :: (Value.str (Str.ofString "_law_dip") (466 : Nat)) :: (Value.str (Str.ofString "/claim/cut.py") (467 : Nat)) :: (Value.int (87 : Int) (0 : Nat)) :: (Value.int (2 : Int) (0 : Nat)) :: (Value.int (0 : Int) (0 : Nat)) :: (Value.int (0 : Int) (0 : Nat)) :: (Value.int (3 : Int) (0 : Nat)) :: (Value.ref (218 : Nat)) :: (Value.bool Bool.true) :: (Value.int (181 : Int) (0 : Nat)) :: (Value.ref (219 : Nat)) :: .none :: (Value.ref (220 : Nat)) :: (Value.ref (221 : Nat)) :: (Value.ref (222 : Nat)) :: (Value.int (471 : Int) (0 : Nat)) :: (Value.int (87 : Int) (0 : Nat)) :: (Value.str (Str.ofString "/claim/cut.py") (472 : Nat)) :: []))) (List.toArray []))
  (Obj.mk (Value.type "function") none (Data.func (FuncData.mk (Str.ofString "_law_dip") (Str.ofString "_law_dip") pA21 (FuncBody.stmts pB21) pS21 (3 : Nat) [] .none .none .none (Value.str (Str.ofString "law_ok0047_01") (457 : Nat)) none (Value.ref (223 : Nat)) .none (0 : Nat))) (List.toArray []))
  (Obj.mk (Value.type "tuple") none (Data.seq (List.toArray []) (0 : Nat)) (List.toArray []))
  (Obj.mk .none none (Data.fields (List.toArray [])) (List.toArray []))
  (Obj.mk .none none (Data.func (FuncData.mk (Str.ofString "_law_tree") (Str.ofString "_law_tree") pA22 (FuncBody.stmts pB22) pS22 (0 : Nat) [] .none .none .none .none none .none .none (0 : Nat))) (List.toArray []))
  (Obj.mk (Value.type "code") none (Data.fields (List.toArray ((Value.str (Str.ofString "_law_tree") (474 : Nat)) :: (Value.str (Str.ofString "_law_tree") (475 : Nat)) :: (Value.str (Str.ofString "/claim/cut.py") (476 : Nat)) :: (Value.int (94 : Int) (0 : Nat)) :: (Value.int (2 : Int) (0 : Nat)) :: (Value.int (0 : Int) (0 : Nat)) :: (Value.int (0 : Int) (0 : Nat)) :: (Value.int (3 : Int) (0 : Nat)) :: (Value.ref (225 : Nat)) :: (Value.bool Bool.true) :: (Value.int (181 : Int) (0 : Nat)) :: (Value.ref (226 : Nat)) :: .none :: .none :: .none :: (Value.ref (227 : Nat)) :: (Value.int (477 : Int) (0 : Nat)) :: (Value.int (94 : Int) (0 : Nat)) :: (Value.str (Str.ofString "/claim/cut.py") (478 : Nat)) :: []))) (List.toArray []))
  (Obj.mk (Value.type "function") none (Data.func (FuncData.mk (Str.ofString "_law_tree") (Str.ofString "_law_tree") pA22 (FuncBody.stmts pB22) pS22 (3 : Nat) [] .none .none .none (Value.str (Str.ofString "law_ok0047_01") (457 : Nat)) none (Value.ref (228 : Nat)) .none (0 : Nat))) (List.toArray []))
  (Obj.mk (Value.type "tuple") none (Data.seq (List.toArray []) (0 : Nat)) (List.toArray []))
  (Obj.mk .none none (Data.fields (List.toArray [])) (List.toArray []))
  (Obj.mk (Value.type "tuple") none (Data.seq (List.toArray [(Value.str (Str.ofString "tree") (483 : Nat)), (Value.str (Str.ofString "found") (484 : Nat)), (Value.str (Str.ofString "own") (485 : Nat))]) (0 : Nat)) (List.toArray []))
  (Obj.mk (Value.type "tuple") none (Data.seq (List.toArray []) (0 : Nat)) (List.toArray []))
  (Obj.mk .none none (Data.func (FuncData.mk (Str.ofString "_law_flat") (Str.ofString "_law_flat") pA23 (FuncBody.stmts pB23) pS23 (0 : Nat) [] .none .none .none .none none .none .none (0 : Nat))) (List.toArray []))
  (Obj.mk (Value.type "code") none (Data.fields (List.toArray ((Value.str (Str.ofString "_law_flat") (480 : Nat)) :: (Value.str (Str.ofString "_law_flat") (481 : Nat)) :: (Value.str (Str.ofString "/claim/cut.py") (482 : Nat)) :: (Value.int (98 : Int) (0 : Nat)) :: (Value.int (1 : Int) (0 : Nat)) :: (Value.int (0 : Int) (0 : Nat)) :: (Value.int (0 : Int) (0 : Nat)) :: (Value.int (3 : Int) (0 : Nat)) :: (Value.ref (230 : Nat)) :: (Value.bool Bool.true) :: (Value.int (181 : Int) (0 : Nat)) :: (Value.ref (231 : Nat)) :: .none :: (Value.ref (232 : Nat)) :: (Value.ref (233 : Nat)) :: (Value.ref (234 : Nat)) :: (Value.int (486 : Int) (0 : Nat)) :: (Value.int (98 : Int) (0 : Nat)) :: (Value.str (Str.ofString "/claim/cut.py") (487 : Nat)) :: []))) (List.toArray []))
  (Obj.mk (Value.type "function") none (Data.func (FuncData.mk (Str.ofString "_law_flat") (Str.ofString "_law_flat") pA23 (FuncBody.stmts pB23) pS23 (3 : Nat) [] .none .none .none (Value.str (Str.ofString "law_ok0047_01") (457 : Nat)) none (Value.ref (235 : Nat)) .none (0 : Nat))) (List.toArray []))
  (Obj.mk (Value.type "tuple") none (Data.seq (List.toArray []) (0 : Nat)) (List.toArray []))
  (Obj.mk .none none (Data.fields (List.toArray [])) (List.toArray []))
  (Obj.mk .none none (Data.func (FuncData.mk (Str.ofString "_law_is_body") (Str.ofString "_law_is_body") pA24 (FuncBody.stmts pB24) pS24 (0 : Nat) [] .none .none .none .none none .none .none (0 : Nat))) (List.toArray []))
  (Obj.mk (Value.type "code") none (Data.fields (List.toArray ((Value.str (Str.ofString "_law_is_body") (489 : Nat)) :: (Value.str (Str.ofString "_law_is_body") (490 : Nat)) :: (Value.str (Str.ofString "/claim/cut.py") (491 : Nat)) :: (Value.int (105 : Int) (0 : Nat)) :: (Value.int (2 : Int) (0 : Nat)) :: (Value.int (0 : Int) (0 : Nat)) :: (Value.int (0 : Int) (0 : Nat)) :: (Value.int (3 : Int) (0 : Nat)) :: (Value.ref (237 : Nat)) :: (Value.bool Bool.true) :: (Value.int (181 : Int) (0 : Nat)) :: (Value.ref (238 : Nat)) :: .none :: .none :: .none :: (Value.ref (239 : Nat)) :: (Value.int (492 : Int) (0 : Nat)) :: (Value.int (105 : Int) (0 : Nat)) :: (Value.str (Str.ofString "/claim/cut.py") (493 : Nat)) :: []))) (List.toArray []))
  (Obj.mk (Value.type "function") none (Data.func (FuncData.mk (Str.ofString "_law_is_body") (Str.ofString "_law_is_body") pA24 (FuncBody.stmts pB24) pS24 (3 : Nat) [] .none .none .none (Value.str (Str.ofString "law_ok0047_01") (457 : Nat)) none (Value.ref (240 : Nat)) .none (0 : Nat))) (List.toArray []))
  (Obj.mk (Value.type "tuple") none (Data.seq (List.toArray []) (0 : Nat)) (List.toArray []))
  (Obj.mk .none none (Data.fields (List.toArray [])) (List.toArray []))
  (Obj.mk .none none (Data.func (FuncData.mk (Str.ofString "_law_is_store") (Str.ofString "_law_is_store") pA25 (FuncBody.stmts pB25) pS25 (0 : Nat) [] .none .none .none .none none .none .none (0 : Nat))) (List.toArray []))
  (Obj.mk (Value.type "code") none (Data.fields (List.toArray ((Value.str (Str.ofString "_law_is_store") (495 : Nat)) :: (Value.str (Str.ofString "_law_is_store") (496 : Nat)) :: (Value.str (Str.ofString "/claim/cut.py") (497 : Nat)) :: (Value.int (113 : Int) (0 : Nat)) :: (Value.int (2 : Int) (0 : Nat)) :: (Value.int (0 : Int) (0 : Nat)) :: (Value.int (0 : Int) (0 : Nat)) :: (Value.int (3 : Int) (0 : Nat)) :: (Value.ref (242 : Nat)) :: (Value.bool Bool.true) :: (Value.int (181 : Int) (0 : Nat)) :: (Value.ref (243 : Nat)) :: .none :: .none :: .none :: (Value.ref (244 : Nat)) :: (Value.int (498 : Int) (0 : Nat)) :: (Value.int (113 : Int) (0 : Nat)) :: (Value.str (Str.ofString "/claim/cut.py") (499 : Nat)) :: []))) (List.toArray []))
  (Obj.mk (Value.type "function") none (Data.func (FuncData.mk (Str.ofString "_law_is_store") (Str.ofString "_law_is_store") pA25 (FuncBody.stmts pB25) pS25 (3 : Nat) [] .none .none .none (Value.str (Str.ofString "law_ok0047_01") (457 : Nat)) none (Value.ref (245 : Nat)) .none (0 : Nat))) (List.toArray []))
  (Obj.mk (Value.type "tuple") none (Data.seq (List.toArray []) (0 : Nat)) (List.toArray []))
  (Obj.mk .none none (Data.fields (List.toArray [])) (List.toArray []))
  (Obj.mk (Value.type "tuple") none (Data.seq (List.toArray ((Value.str (Str.ofString "pot") (504 : Nat)) :: (Value.str (Str.ofString "symbols") (505 : Nat)) :: (Value.str (Str.ofString "way") (506 : Nat)) :: (Value.str (Str.ofString "symbol") (507 : Nat)) :: (Value.str (Str.ofString "form") (508 : Nat)) :: (Value.str (Str.ofString "datum") (509 : Nat)) :: (Value.str (Str.ofString "found") (510 : Nat)) :: [])) (0 : Nat)) (List.toArray []))
  (Obj.mk (Value.type "tuple") none (Data.seq (List.toArray []) (0 : Nat)) (List.toArray []))
  (Obj.mk .none none (Data.func (FuncData.mk (Str.ofString "_law_is_binding") (Str.ofString "_law_is_binding") pA26 (FuncBody.stmts pB26) pS26 (0 : Nat) [] .none .none .none .none none .none .none (0 : Nat))) (List.toArray []))
  (Obj.mk (Value.type "code") none (Data.fields (List.toArray ((Value.str (Str.ofString "_law_is_binding") (501 : Nat)) :: (Value.str (Str.ofString "_law_is_binding") (502 : Nat)) :: (Value.str (Str.ofString "/claim/cut.py") (503 : Nat)) :: (Value.int (126 : Int) (0 : Nat)) :: (Value.int (2 : Int) (0 : Nat)) :: (Value.int (0 : Int) (0 : Nat)) :: (Value.int (0 : Int) (0 : Nat)) :: (Value.int (3 : Int) (0 : Nat)) :: (Value.ref (247 : Nat)) :: (Value.bool Bool.true) :: (Value.int (181 : Int) (0 : Nat)) :: (Value.ref (248 : Nat)) :: .none :: (Value.ref (249 : Nat)) :: (Value.ref (250 : Nat)) :: (Value.ref (251 : Nat)) :: (Value.int (511 : Int) (0 : Nat)) :: (Value.int (126 : Int) (0 : Nat)) :: (Value.str (Str.ofString "/claim/cut.py") (512 : Nat)) :: []))) (List.toArray []))
  (Obj.mk (Value.type "function") none (Data.func (FuncData.mk (Str.ofString "_law_is_binding") (Str.ofString "_law_is_binding") pA26 (FuncBody.stmts pB26) pS26 (3 : Nat) [] .none .none .none (Value.str (Str.ofString "law_ok0047_01") (457 : Nat)) none (Value.ref (252 : Nat)) .none (0 : Nat))) (List.toArray []))
  (Obj.mk (Value.type "tuple") none (Data.seq (List.toArray []) (0 : Nat)) (List.toArray []))
  (Obj.mk .none none (Data.fields (List.toArray [])) (List.toArray []))
  (Obj.mk .none none (Data.func (FuncData.mk (Str.ofString "law") (Str.ofString "law") pA27 (FuncBody.stmts pB27) pS27 (0 : Nat) [] .none .none .none .none none .none .none (0 : Nat))) (List.toArray []))
  (Obj.mk (Value.type "code") none (Data.fields (List.toArray ((Value.str (Str.ofString "law") (514 : Nat)) :: (Value.str (Str.ofString "law") (515 : Nat)) :: (Value.str (Str.ofString "/claim/cut.py") (516 : Nat)) :: (Value.int (133 : Int) (0 : Nat)) :: (Value.int (1 : Int) (0 : Nat)) :: (Value.int (0 : Int) (0 : Nat)) :: (Value.int (0 : Int) (0 : Nat)) :: (Value.int (3 : Int) (0 : Nat)) :: (Value.ref (254 : Nat)) :: (Value.bool Bool.true) :: (Value.int (181 : Int) (0 : Nat)) :: (Value.ref (255 : Nat)) :: .none :: .none :: .none :: (Value.ref (256 : Nat)) :: (Value.int (517 : Int) (0 : Nat)) :: (Value.int (133 : Int) (0 : Nat)) :: (Value.str (Str.ofString "/claim/cut.py") (518 : Nat)) :: []))) (List.toArray []))
  (Obj.mk (Value.type "function") none (Data.func (FuncData.mk (Str.ofString "law") (Str.ofString "law") pA27 (FuncBody.stmts pB27) pS27 (3 : Nat) [] .none .none .none (Value.str (Str.ofString "law_ok0047_01") (457 : Nat)) none (Value.ref (257 : Nat)) .none (0 : Nat))) (List.toArray []))
/-- the objects that stand behind the top -/
noncomputable def hd47.heap_39 : Params → Frag := by
  intro P
  refine' (fun (K : Frag) (_ : ∃ a : Frag, a = K) => K) _ ⟨new_pre (List (Nat × Obj)) (fun o11_pre o12_pre o13_pre o14_pre => new_4 (List (Nat × Obj)) (fun o3_4 o12_4 o15_4 o16_4 o17_4 o18_4 o19_4 o20_4 o21_4 o22_4 o23_4 o24_4 o25_4 o26_4 o27_4 o28_4 o29_4 o30_4 o31_4 o32_4 o33_4 o34_4 o35_4 o36_4 o37_4 o38_4 o39_4 o40_4 o41_4 o42_4 o43_4 o44_4 o45_4 => new_7 (List (Nat × Obj)) (fun o3_7 o12_7 o46_7 o47_7 o48_7 o49_7 o50_7 o51_7 o52_7 o53_7 o54_7 o55_7 o56_7 o57_7 o58_7 o59_7 o60_7 o61_7 o62_7 o63_7 o64_7 o65_7 o66_7 o67_7 o68_7 o69_7 o70_7 o71_7 o72_7 o73_7 o74_7 o75_7 o76_7 o77_7 => new_10 (List (Nat × Obj)) (fun o3_10 o12_10 o78_10 o79_10 o80_10 o81_10 o82_10 o83_10 o84_10 o85_10 o86_10 o87_10 o88_10 o89_10 o90_10 o91_10 o92_10 o93_10 o94_10 o95_10 o96_10 o97_10 o98_10 o99_10 o100_10 o101_10 o102_10 o103_10 o104_10 o105_10 o106_10 o107_10 o108_10 o109_10 o110_10 o111_10 o112_10 o113_10 o114_10 o115_10 o116_10 o117_10 o118_10 o119_10 => new_13 (List (Nat × Obj)) (fun o3_13 o12_13 o120_13 o121_13 o122_13 o123_13 o124_13 o125_13 o126_13 o127_13 o128_13 o129_13 o130_13 o131_13 o132_13 o133_13 o134_13 o135_13 o136_13 o137_13 o138_13 o139_13 o140_13 o141_13 o142_13 o143_13 o144_13 o145_13 o146_13 o147_13 o148_13 o149_13 o150_13 o151_13 o152_13 o153_13 o154_13 o155_13 o156_13 o157_13 o158_13 o159_13 o160_13 o161_13 o162_13 o163_13 o164_13 o165_13 o166_13 o167_13 o168_13 o169_13 o170_13 o171_13 o172_13 o173_13 o174_13 o175_13 o176_13 => new_28 (List (Nat × Obj)) (fun o3_28 o12_28 o177_28 o178_28 o179_28 o180_28 o181_28 o182_28 o183_28 o184_28 o185_28 o186_28 o187_28 o188_28 o189_28 o190_28 o191_28 o192_28 o193_28 o194_28 o195_28 o196_28 o197_28 o198_28 o199_28 o200_28 o201_28 o202_28 o203_28 o204_28 o205_28 o206_28 o207_28 o208_28 o209_28 o210_28 o211_28 o212_28 o213_28 o214_28 o215_28 o216_28 o217_28 o218_28 o219_28 o220_28 o221_28 o222_28 o223_28 o224_28 o225_28 o226_28 o227_28 o228_28 o229_28 o230_28 o231_28 o232_28 o233_28 o234_28 o235_28 o236_28 o237_28 o238_28 o239_28 o240_28 o241_28 o242_28 o243_28 o244_28 o245_28 o246_28 o247_28 o248_28 o249_28 o250_28 o251_28 o252_28 o253_28 o254_28 o255_28 o256_28 o257_28 o258_28 =>
    (((nat_lit 2), (Obj.mk .none none (Data.dict (List.toArray []) (0 : Nat)) (List.toArray []))) :: ((nat_lit 3), o3_28) :: ((nat_lit 15), o15_4) :: ((nat_lit 17), o17_4) :: ((nat_lit 18), o18_4) :: ((nat_lit 20), o20_4) :: ((nat_lit 21), o21_4) :: ((nat_lit 29), o29_4) :: ((nat_lit 31), o31_4) :: ((nat_lit 32), o32_4) :: ((nat_lit 34), o34_4) :: ((nat_lit 35), o35_4) :: ((nat_lit 36), o36_4) :: ((nat_lit 37), o37_4) :: ((nat_lit 38), o38_4) :: ((nat_lit 39), o39_4) :: ((nat_lit 40), o40_4) :: ((nat_lit 43), o43_4) :: ((nat_lit 44), o44_4) :: ((nat_lit 46), o46_7) :: ((nat_lit 47), o47_7) :: ((nat_lit 56), o56_7) :: ((nat_lit 58), o58_7) :: ((nat_lit 59), o59_7) :: ((nat_lit 61), o61_7) :: ((nat_lit 62), o62_7) :: ((nat_lit 63), o63_7) :: ((nat_lit 64), o64_7) :: ((nat_lit 65), o65_7) :: ((nat_lit 66), o66_7) :: ((nat_lit 67), o67_7) :: ((nat_lit 70), o70_7) :: ((nat_lit 71), o71_7) :: ((nat_lit 73), o73_7) :: ((nat_lit 74), o74_7) :: ((nat_lit 76), o76_7) :: ((nat_lit 77), o77_7) :: ((nat_lit 78), o78_10) :: ((nat_lit 80), o80_10) :: ((nat_lit 81), o81_10) :: ((nat_lit 83), o83_10) :: ((nat_lit 84), o84_10) :: ((nat_lit 92), o92_10) :: ((nat_lit 94), o94_10) :: ((nat_lit 95), o95_10) :: ((nat_lit 97), o97_10) :: ((nat_lit 98), o98_10) :: ((nat_lit 99), o99_10) :: ((nat_lit 101), o101_10) :: ((nat_lit 102), o102_10) :: ((nat_lit 104), o104_10) :: ((nat_lit 105), o105_10) :: ((nat_lit 106), o106_10) :: ((nat_lit 108), o108_10) :: ((nat_lit 109), o109_10) :: ((nat_lit 111), o111_10) :: ((nat_lit 112), o112_10) :: ((nat_lit 113), o113_10) :: ((nat_lit 114), o114_10) :: ((nat_lit 115), o115_10) :: ((nat_lit 116), o116_10) :: ((nat_lit 117), o117_10) :: ((nat_lit 127), o127_13) :: ((nat_lit 129), o129_13) :: ((nat_lit 130), o130_13) :: ((nat_lit 132), o132_13) :: ((nat_lit 133), o133_13) :: ((nat_lit 134), o134_13) :: ((nat_lit 136), o136_13) :: ((nat_lit 137), o137_13) :: ((nat_lit 139), o139_13) :: ((nat_lit 140), o140_13) :: ((nat_lit 141), o141_13) :: ((nat_lit 143), o143_13) :: ((nat_lit 144), o144_13) :: ((nat_lit 146), o146_13) :: ((nat_lit 147), o147_13) :: ((nat_lit 148), o148_13) :: ((nat_lit 150), o150_13) :: ((nat_lit 151), o151_13) :: ((nat_lit 153), o153_13) :: ((nat_lit 154), o154_13) :: ((nat_lit 155), o155_13) :: ((nat_lit 156), o156_13) :: ((nat_lit 157), o157_13) :: ((nat_lit 158), o158_13) :: ((nat_lit 159), o159_13) :: ((nat_lit 162), o162_13) :: ((nat_lit 164), o164_13) :: ((nat_lit 165), o165_13) :: ((nat_lit 167), o167_13) :: ((nat_lit 168), o168_13) :: ((nat_lit 169), o169_13) :: ((nat_lit 170), o170_13) :: ((nat_lit 172), o172_13) :: ((nat_lit 173), o173_13) :: ((nat_lit 175), o175_13) :: ((nat_lit 176), o176_13) :: ((nat_lit 177), o177_28) :: ((nat_lit 179), o179_28) :: ((nat_lit 180), o180_28) :: ((nat_lit 182), o182_28) :: ((nat_lit 183), o183_28) :: ((nat_lit 184), o184_28) :: ((nat_lit 187), o187_28) :: ((nat_lit 188), o188_28) :: ((nat_lit 189), o189_28) :: ((nat_lit 191), o191_28) :: ((nat_lit 192), o192_28) :: ((nat_lit 194), o194_28) :: ((nat_lit 195), o195_28) :: ((nat_lit 196), o196_28) :: ((nat_lit 198), o198_28) :: ((nat_lit 199), o199_28) :: ((nat_lit 201), o201_28) :: ((nat_lit 202), o202_28) :: ((nat_lit 203), o203_28) :: ((nat_lit 206), o206_28) :: ((nat_lit 207), o207_28) :: ((nat_lit 208), o208_28) :: ((nat_lit 211), o211_28) :: ((nat_lit 212), o212_28) :: ((nat_lit 213), o213_28) :: ((nat_lit 216), o216_28) :: ((nat_lit 217), o217_28) :: ((nat_lit 218), o218_28) :: ((nat_lit 220), o220_28) :: ((nat_lit 221), o221_28) :: ((nat_lit 223), o223_28) :: ((nat_lit 224), o224_28) :: ((nat_lit 225), o225_28) :: ((nat_lit 228), o228_28) :: ((nat_lit 229), o229_28) :: ((nat_lit 230), o230_28) :: ((nat_lit 232), o232_28) :: ((nat_lit 233), o233_28) :: ((nat_lit 235), o235_28) :: ((nat_lit 236), o236_28) :: ((nat_lit 237), o237_28) :: ((nat_lit 240), o240_28) :: ((nat_lit 241), o241_28) :: ((nat_lit 242), o242_28) :: ((nat_lit 245), o245_28) :: ((nat_lit 246), o246_28) :: ((nat_lit 247), o247_28) :: ((nat_lit 249), o249_28) :: ((nat_lit 250), o250_28) :: ((nat_lit 252), o252_28) :: ((nat_lit 253), o253_28) :: ((nat_lit 254), o254_28) :: ((nat_lit 257), o257_28) :: ((nat_lit 258), o258_28) :: [])) P) P) P) P) P) P, ?h⟩
  case h => (conv => lhs; whnf; delta pA0 pB0 pS0 pA1 pB1 pS1 pA2 pB2 pS2 pA3 pB3 pS3 pA4 pB4 pS4 pA5 pB5 pS5 pA6 pB6 pS6 pA7 pB7 pS7 pA8 pB8 pS8 pA9 pB9 pA10 pB10 pS10 pA11 pB11 pS11 pA12 pB12 pS12 pA13 pB13 pS13 pA14 pB14 pS14 pA15 pB15 pS15 pA16 pB16 pS16 pA17 pB17 pS17 pA18 pB18 pS18 pA19 pB19 pS19 pA20 pB20 pS20 pA21 pB21 pS21 pA22 pB22 pS22 pA23 pB23 pS23 pA24 pB24 pS24 pA25 pB25 pS25 pA26 pB26 pS26 pA27 pB27 pS27; delta pick)
def addrs47 : List Addr := [2, 3, 15, 17, 18, 20, 21, 29, 31, 32, 34, 35, 36, 37, 38, 39, 40, 43, 44, 46, 47, 56, 58, 59, 61, 62, 63, 64, 65, 66, 67, 70, 71, 73, 74, 76, 77, 78, 80, 81, 83, 84, 92, 94, 95, 97, 98, 99, 101, 102, 104, 105, 106, 108, 109, 111, 112, 113, 114, 115, 116, 117, 127, 129, 130, 132, 133, 134, 136, 137, 139, 140, 141, 143, 144, 146, 147, 148, 150, 151, 153, 154, 155, 156, 157, 158, 159, 162, 164, 165, 167, 168, 169, 170, 172, 173, 175, 176, 177, 179, 180, 182, 183, 184, 187, 188, 189, 191, 192, 194, 195, 196, 198, 199, 201, 202, 203, 206, 207, 208, 211, 212, 213, 216, 217, 218, 220, 221, 223, 224, 225, 228, 229, 230, 232, 233, 235, 236, 237, 240, 241, 242, 245, 246, 247, 249, 250, 252, 253, 254, 257, 258]

theorem addrs_ok (P : Params) : addrs47 = (hd47.heap_39 P).map (·.1) := by kernel_rfl
noncomputable abbrev loose47 : List Str := [Str.ofString "NIL", Str.ofString "T", Str.ofString "list_of", Str.ofString "line_task"]
noncomputable def tree_pre (P : Params) : BT := new_pre BT (fun o11_pre o12_pre o13_pre o14_pre =>
  (.node (boot_o_0 P) (.node (boot_o_1 P) (.node (boot_o_3 P) (.node (boot_o_7 P) .nil .nil) (.node o11_pre .nil .nil)) (.node (boot_o_5 P) (.node (boot_o_9 P) .nil .nil) (.node o13_pre .nil .nil))) (.node (boot_o_2 P) (.node (boot_o_4 P) (.node (boot_o_8 P) .nil .nil) (.node o12_pre .nil .nil)) (.node (boot_o_6 P) (.node (boot_o_10 P) .nil .nil) (.node o14_pre .nil .nil))))) P
noncomputable def tree_4 (P : Params) : BT := new_pre BT (fun o11_pre o12_pre o13_pre o14_pre => new_4 BT (fun o3_4 o12_4 o15_4 o16_4 o17_4 o18_4 o19_4 o20_4 o21_4 o22_4 o23_4 o24_4 o25_4 o26_4 o27_4 o28_4 o29_4 o30_4 o31_4 o32_4 o33_4 o34_4 o35_4 o36_4 o37_4 o38_4 o39_4 o40_4 o41_4 o42_4 o43_4 o44_4 o45_4 =>
  (.node (boot_o_0 P) (.node (boot_o_1 P) (.node o3_4 (.node (boot_o_7 P) (.node o15_4 (.node o31_4 .nil .nil) .nil) (.node o23_4 (.node o39_4 .nil .nil) .nil)) (.node o11_pre (.node o19_4 (.node o35_4 .nil .nil) .nil) (.node o27_4 (.node o43_4 .nil .nil) .nil))) (.node (boot_o_5 P) (.node (boot_o_9 P) (.node o17_4 (.node o33_4 .nil .nil) .nil) (.node o25_4 (.node o41_4 .nil .nil) .nil)) (.node o13_pre (.node o21_4 (.node o37_4 .nil .nil) .nil) (.node o29_4 (.node o45_4 .nil .nil) .nil)))) (.node (boot_o_2 P) (.node (boot_o_4 P) (.node (boot_o_8 P) (.node o16_4 (.node o32_4 .nil .nil) .nil) (.node o24_4 (.node o40_4 .nil .nil) .nil)) (.node o12_4 (.node o20_4 (.node o36_4 .nil .nil) .nil) (.node o28_4 (.node o44_4 .nil .nil) .nil))) (.node (boot_o_6 P) (.node (boot_o_10 P) (.node o18_4 (.node o34_4 .nil .nil) .nil) (.node o26_4 (.node o42_4 .nil .nil) .nil)) (.node o14_pre (.node o22_4 (.node o38_4 .nil .nil) .nil) (.node o30_4 .nil .nil)))))) P) P
noncomputable def tree_7 (P : Params) : BT := new_pre BT (fun o11_pre o12_pre o13_pre o14_pre => new_4 BT (fun o3_4 o12_4 o15_4 o16_4 o17_4 o18_4 o19_4 o20_4 o21_4 o22_4 o23_4 o24_4 o25_4 o26_4 o27_4 o28_4 o29_4 o30_4 o31_4 o32_4 o33_4 o34_4 o35_4 o36_4 o37_4 o38_4 o39_4 o40_4 o41_4 o42_4 o43_4 o44_4 o45_4 => new_7 BT (fun o3_7 o12_7 o46_7 o47_7 o48_7 o49_7 o50_7 o51_7 o52_7 o53_7 o54_7 o55_7 o56_7 o57_7 o58_7 o59_7 o60_7 o61_7 o62_7 o63_7 o64_7 o65_7 o66_7 o67_7 o68_7 o69_7 o70_7 o71_7 o72_7 o73_7 o74_7 o75_7 o76_7 o77_7 =>
  (.node (boot_o_0 P) (.node (boot_o_1 P) (.node o3_7 (.node (boot_o_7 P) (.node o15_4 (.node o31_4 (.node o63_7 .nil .nil) .nil) (.node o47_7 .nil .nil)) (.node o23_4 (.node o39_4 (.node o71_7 .nil .nil) .nil) (.node o55_7 .nil .nil))) (.node o11_pre (.node o19_4 (.node o35_4 (.node o67_7 .nil .nil) .nil) (.node o51_7 .nil .nil)) (.node o27_4 (.node o43_4 (.node o75_7 .nil .nil) .nil) (.node o59_7 .nil .nil)))) (.node (boot_o_5 P) (.node (boot_o_9 P) (.node o17_4 (.node o33_4 (.node o65_7 .nil .nil) .nil) (.node o49_7 .nil .nil)) (.node o25_4 (.node o41_4 (.node o73_7 .nil .nil) .nil) (.node o57_7 .nil .nil))) (.node o13_pre (.node o21_4 (.node o37_4 (.node o69_7 .nil .nil) .nil) (.node o53_7 .nil .nil)) (.node o29_4 (.node o45_4 (.node o77_7 .nil .nil) .nil) (.node o61_7 .nil .nil))))) (.node (boot_o_2 P) (.node (boot_o_4 P) (.node (boot_o_8 P) (.node o16_4 (.node o32_4 (.node o64_7 .nil .nil) .nil) (.node o48_7 .nil .nil)) (.node o24_4 (.node o40_4 (.node o72_7 .nil .nil) .nil) (.node o56_7 .nil .nil))) (.node o12_7 (.node o20_4 (.node o36_4 (.node o68_7 .nil .nil) .nil) (.node o52_7 .nil .nil)) (.node o28_4 (.node o44_4 (.node o76_7 .nil .nil) .nil) (.node o60_7 .nil .nil)))) (.node (boot_o_6 P) (.node (boot_o_10 P) (.node o18_4 (.node o34_4 (.node o66_7 .nil .nil) .nil) (.node o50_7 .nil .nil)) (.node o26_4 (.node o42_4 (.node o74_7 .nil .nil) .nil) (.node o58_7 .nil .nil))) (.node o14_pre (.node o22_4 (.node o38_4 (.node o70_7 .nil .nil) .nil) (.node o54_7 .nil .nil)) (.node o30_4 (.node o46_7 .nil .nil) (.node o62_7 .nil .nil))))))) P) P) P
noncomputable def tree_10 (P : Params) : BT := new_pre BT (fun o11_pre o12_pre o13_pre o14_pre => new_4 BT (fun o3_4 o12_4 o15_4 o16_4 o17_4 o18_4 o19_4 o20_4 o21_4 o22_4 o23_4 o24_4 o25_4 o26_4 o27_4 o28_4 o29_4 o30_4 o31_4 o32_4 o33_4 o34_4 o35_4 o36_4 o37_4 o38_4 o39_4 o40_4 o41_4 o42_4 o43_4 o44_4 o45_4 => new_7 BT (fun o3_7 o12_7 o46_7 o47_7 o48_7 o49_7 o50_7 o51_7 o52_7 o53_7 o54_7 o55_7 o56_7 o57_7 o58_7 o59_7 o60_7 o61_7 o62_7 o63_7 o64_7 o65_7 o66_7 o67_7 o68_7 o69_7 o70_7 o71_7 o72_7 o73_7 o74_7 o75_7 o76_7 o77_7 => new_10 BT (fun o3_10 o12_10 o78_10 o79_10 o80_10 o81_10 o82_10 o83_10 o84_10 o85_10 o86_10 o87_10 o88_10 o89_10 o90_10 o91_10 o92_10 o93_10 o94_10 o95_10 o96_10 o97_10 o98_10 o99_10 o100_10 o101_10 o102_10 o103_10 o104_10 o105_10 o106_10 o107_10 o108_10 o109_10 o110_10 o111_10 o112_10 o113_10 o114_10 o115_10 o116_10 o117_10 o118_10 o119_10 =>
  (.node (boot_o_0 P) (.node (boot_o_1 P) (.node o3_10 (.node (boot_o_7 P) (.node o15_4 (.node o31_4 (.node o63_7 .nil .nil) (.node o95_10 .nil .nil)) (.node o47_7 (.node o79_10 .nil .nil) (.node o111_10 .nil .nil))) (.node o23_4 (.node o39_4 (.node o71_7 .nil .nil) (.node o103_10 .nil .nil)) (.node o55_7 (.node o87_10 .nil .nil) (.node o119_10 .nil .nil)))) (.node o11_pre (.node o19_4 (.node o35_4 (.node o67_7 .nil .nil) (.node o99_10 .nil .nil)) (.node o51_7 (.node o83_10 .nil .nil) (.node o115_10 .nil .nil))) (.node o27_4 (.node o43_4 (.node o75_7 .nil .nil) (.node o107_10 .nil .nil)) (.node o59_7 (.node o91_10 .nil .nil) .nil)))) (.node (boot_o_5 P) (.node (boot_o_9 P) (.node o17_4 (.node o33_4 (.node o65_7 .nil .nil) (.node o97_10 .nil .nil)) (.node o49_7 (.node o81_10 .nil .nil) (.node o113_10 .nil .nil))) (.node o25_4 (.node o41_4 (.node o73_7 .nil .nil) (.node o105_10 .nil .nil)) (.node o57_7 (.node o89_10 .nil .nil) .nil))) (.node o13_pre (.node o21_4 (.node o37_4 (.node o69_7 .nil .nil) (.node o101_10 .nil .nil)) (.node o53_7 (.node o85_10 .nil .nil) (.node o117_10 .nil .nil))) (.node o29_4 (.node o45_4 (.node o77_7 .nil .nil) (.node o109_10 .nil .nil)) (.node o61_7 (.node o93_10 .nil .nil) .nil))))) (.node (boot_o_2 P) (.node (boot_o_4 P) (.node (boot_o_8 P) (.node o16_4 (.node o32_4 (.node o64_7 .nil .nil) (.node o96_10 .nil .nil)) (.node o48_7 (.node o80_10 .nil .nil) (.node o112_10 .nil .nil))) (.node o24_4 (.node o40_4 (.node o72_7 .nil .nil) (.node o104_10 .nil .nil)) (.node o56_7 (.node o88_10 .nil .nil) .nil))) (.node o12_10 (.node o20_4 (.node o36_4 (.node o68_7 .nil .nil) (.node o100_10 .nil .nil)) (.node o52_7 (.node o84_10 .nil .nil) (.node o116_10 .nil .nil))) (.node o28_4 (.node o44_4 (.node o76_7 .nil .nil) (.node o108_10 .nil .nil)) (.node o60_7 (.node o92_10 .nil .nil) .nil)))) (.node (boot_o_6 P) (.node (boot_o_10 P) (.node o18_4 (.node o34_4 (.node o66_7 .nil .nil) (.node o98_10 .nil .nil)) (.node o50_7 (.node o82_10 .nil .nil) (.node o114_10 .nil .nil))) (.node o26_4 (.node o42_4 (.node o74_7 .nil .nil) (.node o106_10 .nil .nil)) (.node o58_7 (.node o90_10 .nil .nil) .nil))) (.node o14_pre (.node o22_4 (.node o38_4 (.node o70_7 .nil .nil) (.node o102_10 .nil .nil)) (.node o54_7 (.node o86_10 .nil .nil) (.node o118_10 .nil .nil))) (.node o30_4 (.node o46_7 (.node o78_10 .nil .nil) (.node o110_10 .nil .nil)) (.node o62_7 (.node o94_10 .nil .nil) .nil))))))) P) P) P) P
noncomputable def tree_13 (P : Params) : BT := new_pre BT (fun o11_pre o12_pre o13_pre o14_pre => new_4 BT (fun o3_4 o12_4 o15_4 o16_4 o17_4 o18_4 o19_4 o20_4 o21_4 o22_4 o23_4 o24_4 o25_4 o26_4 o27_4 o28_4 o29_4 o30_4 o31_4 o32_4 o33_4 o34_4 o35_4 o36_4 o37_4 o38_4 o39_4 o40_4 o41_4 o42_4 o43_4 o44_4 o45_4 => new_7 BT (fun o3_7 o12_7 o46_7 o47_7 o48_7 o49_7 o50_7 o51_7 o52_7 o53_7 o54_7 o55_7 o56_7 o57_7 o58_7 o59_7 o60_7 o61_7 o62_7 o63_7 o64_7 o65_7 o66_7 o67_7 o68_7 o69_7 o70_7 o71_7 o72_7 o73_7 o74_7 o75_7 o76_7 o77_7 => new_10 BT (fun o3_10 o12_10 o78_10 o79_10 o80_10 o81_10 o82_10 o83_10 o84_10 o85_10 o86_10 o87_10 o88_10 o89_10 o90_10 o91_10 o92_10 o93_10 o94_10 o95_10 o96_10 o97_10 o98_10 o99_10 o100_10 o101_10 o102_10 o103_10 o104_10 o105_10 o106_10 o107_10 o108_10 o109_10 o110_10 o111_10 o112_10 o113_10 o114_10 o115_10 o116_10 o117_10 o118_10 o119_10 => new_13 BT (fun o3_13 o12_13 o120_13 o121_13 o122_13 o123_13 o124_13 o125_13 o126_13 o127_13 o128_13 o129_13 o130_13 o131_13 o132_13 o133_13 o134_13 o135_13 o136_13 o137_13 o138_13 o139_13 o140_13 o141_13 o142_13 o143_13 o144_13 o145_13 o146_13 o147_13 o148_13 o149_13 o150_13 o151_13 o152_13 o153_13 o154_13 o155_13 o156_13 o157_13 o158_13 o159_13 o160_13 o161_13 o162_13 o163_13 o164_13 o165_13 o166_13 o167_13 o168_13 o169_13 o170_13 o171_13 o172_13 o173_13 o174_13 o175_13 o176_13 =>
  (.node (boot_o_0 P) (.node (boot_o_1 P) (.node o3_13 (.node (boot_o_7 P) (.node o15_4 (.node o31_4 (.node o63_7 (.node o127_13 .nil .nil) .nil) (.node o95_10 (.node o159_13 .nil .nil) .nil)) (.node o47_7 (.node o79_10 (.node o143_13 .nil .nil) .nil) (.node o111_10 (.node o175_13 .nil .nil) .nil))) (.node o23_4 (.node o39_4 (.node o71_7 (.node o135_13 .nil .nil) .nil) (.node o103_10 (.node o167_13 .nil .nil) .nil)) (.node o55_7 (.node o87_10 (.node o151_13 .nil .nil) .nil) (.node o119_10 .nil .nil)))) (.node o11_pre (.node o19_4 (.node o35_4 (.node o67_7 (.node o131_13 .nil .nil) .nil) (.node o99_10 (.node o163_13 .nil .nil) .nil)) (.node o51_7 (.node o83_10 (.node o147_13 .nil .nil) .nil) (.node o115_10 .nil .nil))) (.node o27_4 (.node o43_4 (.node o75_7 (.node o139_13 .nil .nil) .nil) (.node o107_10 (.node o171_13 .nil .nil) .nil)) (.node o59_7 (.node o91_10 (.node o155_13 .nil .nil) .nil) (.node o123_13 .nil .nil))))) (.node (boot_o_5 P) (.node (boot_o_9 P) (.node o17_4 (.node o33_4 (.node o65_7 (.node o129_13 .nil .nil) .nil) (.node o97_10 (.node o161_13 .nil .nil) .nil)) (.node o49_7 (.node o81_10 (.node o145_13 .nil .nil) .nil) (.node o113_10 .nil .nil))) (.node o25_4 (.node o41_4 (.node o73_7 (.node o137_13 .nil .nil) .nil) (.node o105_10 (.node o169_13 .nil .nil) .nil)) (.node o57_7 (.node o89_10 (.node o153_13 .nil .nil) .nil) (.node o121_13 .nil .nil)))) (.node o13_pre (.node o21_4 (.node o37_4 (.node o69_7 (.node o133_13 .nil .nil) .nil) (.node o101_10 (.node o165_13 .nil .nil) .nil)) (.node o53_7 (.node o85_10 (.node o149_13 .nil .nil) .nil) (.node o117_10 .nil .nil))) (.node o29_4 (.node o45_4 (.node o77_7 (.node o141_13 .nil .nil) .nil) (.node o109_10 (.node o173_13 .nil .nil) .nil)) (.node o61_7 (.node o93_10 (.node o157_13 .nil .nil) .nil) (.node o125_13 .nil .nil)))))) (.node (boot_o_2 P) (.node (boot_o_4 P) (.node (boot_o_8 P) (.node o16_4 (.node o32_4 (.node o64_7 (.node o128_13 .nil .nil) .nil) (.node o96_10 (.node o160_13 .nil .nil) .nil)) (.node o48_7 (.node o80_10 (.node o144_13 .nil .nil) .nil) (.node o112_10 (.node o176_13 .nil .nil) .nil))) (.node o24_4 (.node o40_4 (.node o72_7 (.node o136_13 .nil .nil) .nil) (.node o104_10 (.node o168_13 .nil .nil) .nil)) (.node o56_7 (.node o88_10 (.node o152_13 .nil .nil) .nil) (.node o120_13 .nil .nil)))) (.node o12_13 (.node o20_4 (.node o36_4 (.node o68_7 (.node o132_13 .nil .nil) .nil) (.node o100_10 (.node o164_13 .nil .nil) .nil)) (.node o52_7 (.node o84_10 (.node o148_13 .nil .nil) .nil) (.node o116_10 .nil .nil))) (.node o28_4 (.node o44_4 (.node o76_7 (.node o140_13 .nil .nil) .nil) (.node o108_10 (.node o172_13 .nil .nil) .nil)) (.node o60_7 (.node o92_10 (.node o156_13 .nil .nil) .nil) (.node o124_13 .nil .nil))))) (.node (boot_o_6 P) (.node (boot_o_10 P) (.node o18_4 (.node o34_4 (.node o66_7 (.node o130_13 .nil .nil) .nil) (.node o98_10 (.node o162_13 .nil .nil) .nil)) (.node o50_7 (.node o82_10 (.node o146_13 .nil .nil) .nil) (.node o114_10 .nil .nil))) (.node o26_4 (.node o42_4 (.node o74_7 (.node o138_13 .nil .nil) .nil) (.node o106_10 (.node o170_13 .nil .nil) .nil)) (.node o58_7 (.node o90_10 (.node o154_13 .nil .nil) .nil) (.node o122_13 .nil .nil)))) (.node o14_pre (.node o22_4 (.node o38_4 (.node o70_7 (.node o134_13 .nil .nil) .nil) (.node o102_10 (.node o166_13 .nil .nil) .nil)) (.node o54_7 (.node o86_10 (.node o150_13 .nil .nil) .nil) (.node o118_10 .nil .nil))) (.node o30_4 (.node o46_7 (.node o78_10 (.node o142_13 .nil .nil) .nil) (.node o110_10 (.node o174_13 .nil .nil) .nil)) (.node o62_7 (.node o94_10 (.node o158_13 .nil .nil) .nil) (.node o126_13 .nil .nil)))))))) P) P) P) P) P
noncomputable def tree_28 (P : Params) : BT := new_pre BT (fun o11_pre o12_pre o13_pre o14_pre => new_4 BT (fun o3_4 o12_4 o15_4 o16_4 o17_4 o18_4 o19_4 o20_4 o21_4 o22_4 o23_4 o24_4 o25_4 o26_4 o27_4 o28_4 o29_4 o30_4 o31_4 o32_4 o33_4 o34_4 o35_4 o36_4 o37_4 o38_4 o39_4 o40_4 o41_4 o42_4 o43_4 o44_4 o45_4 => new_7 BT (fun o3_7 o12_7 o46_7 o47_7 o48_7 o49_7 o50_7 o51_7 o52_7 o53_7 o54_7 o55_7 o56_7 o57_7 o58_7 o59_7 o60_7 o61_7 o62_7 o63_7 o64_7 o65_7 o66_7 o67_7 o68_7 o69_7 o70_7 o71_7 o72_7 o73_7 o74_7 o75_7 o76_7 o77_7 => new_10 BT (fun o3_10 o12_10 o78_10 o79_10 o80_10 o81_10 o82_10 o83_10 o84_10 o85_10 o86_10 o87_10 o88_10 o89_10 o90_10 o91_10 o92_10 o93_10 o94_10 o95_10 o96_10 o97_10 o98_10 o99_10 o100_10 o101_10 o102_10 o103_10 o104_10 o105_10 o106_10 o107_10 o108_10 o109_10 o110_10 o111_10 o112_10 o113_10 o114_10 o115_10 o116_10 o117_10 o118_10 o119_10 => new_13 BT (fun o3_13 o12_13 o120_13 o121_13 o122_13 o123_13 o124_13 o125_13 o126_13 o127_13 o128_13 o129_13 o130_13 o131_13 o132_13 o133_13 o134_13 o135_13 o136_13 o137_13 o138_13 o139_13 o140_13 o141_13 o142_13 o143_13 o144_13 o145_13 o146_13 o147_13 o148_13 o149_13 o150_13 o151_13 o152_13 o153_13 o154_13 o155_13 o156_13 o157_13 o158_13 o159_13 o160_13 o161_13 o162_13 o163_13 o164_13 o165_13 o166_13 o167_13 o168_13 o169_13 o170_13 o171_13 o172_13 o173_13 o174_13 o175_13 o176_13 => new_28 BT (fun o3_28 o12_28 o177_28 o178_28 o179_28 o180_28 o181_28 o182_28 o183_28 o184_28 o185_28 o186_28 o187_28 o188_28 o189_28 o190_28 o191_28 o192_28 o193_28 o194_28 o195_28 o196_28 o197_28 o198_28 o199_28 o200_28 o201_28 o202_28 o203_28 o204_28 o205_28 o206_28 o207_28 o208_28 o209_28 o210_28 o211_28 o212_28 o213_28 o214_28 o215_28 o216_28 o217_28 o218_28 o219_28 o220_28 o221_28 o222_28 o223_28 o224_28 o225_28 o226_28 o227_28 o228_28 o229_28 o230_28 o231_28 o232_28 o233_28 o234_28 o235_28 o236_28 o237_28 o238_28 o239_28 o240_28 o241_28 o242_28 o243_28 o244_28 o245_28 o246_28 o247_28 o248_28 o249_28 o250_28 o251_28 o252_28 o253_28 o254_28 o255_28 o256_28 o257_28 o258_28 =>
  (.node (boot_o_0 P) (.node (boot_o_1 P) (.node o3_28 (.node (boot_o_7 P) (.node o15_4 (.node o31_4 (.node o63_7 (.node o127_13 (.node o255_28 .nil .nil) .nil) (.node o191_28 .nil .nil)) (.node o95_10 (.node o159_13 .nil .nil) (.node o223_28 .nil .nil))) (.node o47_7 (.node o79_10 (.node o143_13 .nil .nil) (.node o207_28 .nil .nil)) (.node o111_10 (.node o175_13 .nil .nil) (.node o239_28 .nil .nil)))) (.node o23_4 (.node o39_4 (.node o71_7 (.node o135_13 .nil .nil) (.node o199_28 .nil .nil)) (.node o103_10 (.node o167_13 .nil .nil) (.node o231_28 .nil .nil))) (.node o55_7 (.node o87_10 (.node o151_13 .nil .nil) (.node o215_28 .nil .nil)) (.node o119_10 (.node o183_28 .nil .nil) (.node o247_28 .nil .nil))))) (.node o11_pre (.node o19_4 (.node o35_4 (.node o67_7 (.node o131_13 .nil .nil) (.node o195_28 .nil .nil)) (.node o99_10 (.node o163_13 .nil .nil) (.node o227_28 .nil .nil))) (.node o51_7 (.node o83_10 (.node o147_13 .nil .nil) (.node o211_28 .nil .nil)) (.node o115_10 (.node o179_28 .nil .nil) (.node o243_28 .nil .nil)))) (.node o27_4 (.node o43_4 (.node o75_7 (.node o139_13 .nil .nil) (.node o203_28 .nil .nil)) (.node o107_10 (.node o171_13 .nil .nil) (.node o235_28 .nil .nil))) (.node o59_7 (.node o91_10 (.node o155_13 .nil .nil) (.node o219_28 .nil .nil)) (.node o123_13 (.node o187_28 .nil .nil) (.node o251_28 .nil .nil)))))) (.node (boot_o_5 P) (.node (boot_o_9 P) (.node o17_4 (.node o33_4 (.node o65_7 (.node o129_13 (.node o257_28 .nil .nil) .nil) (.node o193_28 .nil .nil)) (.node o97_10 (.node o161_13 .nil .nil) (.node o225_28 .nil .nil))) (.node o49_7 (.node o81_10 (.node o145_13 .nil .nil) (.node o209_28 .nil .nil)) (.node o113_10 (.node o177_28 .nil .nil) (.node o241_28 .nil .nil)))) (.node o25_4 (.node o41_4 (.node o73_7 (.node o137_13 .nil .nil) (.node o201_28 .nil .nil)) (.node o105_10 (.node o169_13 .nil .nil) (.node o233_28 .nil .nil))) (.node o57_7 (.node o89_10 (.node o153_13 .nil .nil) (.node o217_28 .nil .nil)) (.node o121_13 (.node o185_28 .nil .nil) (.node o249_28 .nil .nil))))) (.node o13_pre (.node o21_4 (.node o37_4 (.node o69_7 (.node o133_13 .nil .nil) (.node o197_28 .nil .nil)) (.node o101_10 (.node o165_13 .nil .nil) (.node o229_28 .nil .nil))) (.node o53_7 (.node o85_10 (.node o149_13 .nil .nil) (.node o213_28 .nil .nil)) (.node o117_10 (.node o181_28 .nil .nil) (.node o245_28 .nil .nil)))) (.node o29_4 (.node o45_4 (.node o77_7 (.node o141_13 .nil .nil) (.node o205_28 .nil .nil)) (.node o109_10 (.node o173_13 .nil .nil) (.node o237_28 .nil .nil))) (.node o61_7 (.node o93_10 (.node o157_13 .nil .nil) (.node o221_28 .nil .nil)) (.node o125_13 (.node o189_28 .nil .nil) (.node o253_28 .nil .nil))))))) (.node (boot_o_2 P) (.node (boot_o_4 P) (.node (boot_o_8 P) (.node o16_4 (.node o32_4 (.node o64_7 (.node o128_13 (.node o256_28 .nil .nil) .nil) (.node o192_28 .nil .nil)) (.node o96_10 (.node o160_13 .nil .nil) (.node o224_28 .nil .nil))) (.node o48_7 (.node o80_10 (.node o144_13 .nil .nil) (.node o208_28 .nil .nil)) (.node o112_10 (.node o176_13 .nil .nil) (.node o240_28 .nil .nil)))) (.node o24_4 (.node o40_4 (.node o72_7 (.node o136_13 .nil .nil) (.node o200_28 .nil .nil)) (.node o104_10 (.node o168_13 .nil .nil) (.node o232_28 .nil .nil))) (.node o56_7 (.node o88_10 (.node o152_13 .nil .nil) (.node o216_28 .nil .nil)) (.node o120_13 (.node o184_28 .nil .nil) (.node o248_28 .nil .nil))))) (.node o12_28 (.node o20_4 (.node o36_4 (.node o68_7 (.node o132_13 .nil .nil) (.node o196_28 .nil .nil)) (.node o100_10 (.node o164_13 .nil .nil) (.node o228_28 .nil .nil))) (.node o52_7 (.node o84_10 (.node o148_13 .nil .nil) (.node o212_28 .nil .nil)) (.node o116_10 (.node o180_28 .nil .nil) (.node o244_28 .nil .nil)))) (.node o28_4 (.node o44_4 (.node o76_7 (.node o140_13 .nil .nil) (.node o204_28 .nil .nil)) (.node o108_10 (.node o172_13 .nil .nil) (.node o236_28 .nil .nil))) (.node o60_7 (.node o92_10 (.node o156_13 .nil .nil) (.node o220_28 .nil .nil)) (.node o124_13 (.node o188_28 .nil .nil) (.node o252_28 .nil .nil)))))) (.node (boot_o_6 P) (.node (boot_o_10 P) (.node o18_4 (.node o34_4 (.node o66_7 (.node o130_13 (.node o258_28 .nil .nil) .nil) (.node o194_28 .nil .nil)) (.node o98_10 (.node o162_13 .nil .nil) (.node o226_28 .nil .nil))) (.node o50_7 (.node o82_10 (.node o146_13 .nil .nil) (.node o210_28 .nil .nil)) (.node o114_10 (.node o178_28 .nil .nil) (.node o242_28 .nil .nil)))) (.node o26_4 (.node o42_4 (.node o74_7 (.node o138_13 .nil .nil) (.node o202_28 .nil .nil)) (.node o106_10 (.node o170_13 .nil .nil) (.node o234_28 .nil .nil))) (.node o58_7 (.node o90_10 (.node o154_13 .nil .nil) (.node o218_28 .nil .nil)) (.node o122_13 (.node o186_28 .nil .nil) (.node o250_28 .nil .nil))))) (.node o14_pre (.node o22_4 (.node o38_4 (.node o70_7 (.node o134_13 .nil .nil) (.node o198_28 .nil .nil)) (.node o102_10 (.node o166_13 .nil .nil) (.node o230_28 .nil .nil))) (.node o54_7 (.node o86_10 (.node o150_13 .nil .nil) (.node o214_28 .nil .nil)) (.node o118_10 (.node o182_28 .nil .nil) (.node o246_28 .nil .nil)))) (.node o30_4 (.node o46_7 (.node o78_10 (.node o142_13 .nil .nil) (.node o206_28 .nil .nil)) (.node o110_10 (.node o174_13 .nil .nil) (.node o238_28 .nil .nil))) (.node o62_7 (.node o94_10 (.node o158_13 .nil .nil) (.node o222_28 .nil .nil)) (.node o126_13 (.node o190_28 .nil .nil) (.node o254_28 .nil .nil))))))))) P) P) P) P) P) P
noncomputable def objsF (P : Params) : List Obj := new_pre (List Obj) (fun o11_pre o12_pre o13_pre o14_pre => new_4 (List Obj) (fun o3_4 o12_4 o15_4 o16_4 o17_4 o18_4 o19_4 o20_4 o21_4 o22_4 o23_4 o24_4 o25_4 o26_4 o27_4 o28_4 o29_4 o30_4 o31_4 o32_4 o33_4 o34_4 o35_4 o36_4 o37_4 o38_4 o39_4 o40_4 o41_4 o42_4 o43_4 o44_4 o45_4 => new_7 (List Obj) (fun o3_7 o12_7 o46_7 o47_7 o48_7 o49_7 o50_7 o51_7 o52_7 o53_7 o54_7 o55_7 o56_7 o57_7 o58_7 o59_7 o60_7 o61_7 o62_7 o63_7 o64_7 o65_7 o66_7 o67_7 o68_7 o69_7 o70_7 o71_7 o72_7 o73_7 o74_7 o75_7 o76_7 o77_7 => new_10 (List Obj) (fun o3_10 o12_10 o78_10 o79_10 o80_10 o81_10 o82_10 o83_10 o84_10 o85_10 o86_10 o87_10 o88_10 o89_10 o90_10 o91_10 o92_10 o93_10 o94_10 o95_10 o96_10 o97_10 o98_10 o99_10 o100_10 o101_10 o102_10 o103_10 o104_10 o105_10 o106_10 o107_10 o108_10 o109_10 o110_10 o111_10 o112_10 o113_10 o114_10 o115_10 o116_10 o117_10 o118_10 o119_10 => new_13 (List Obj) (fun o3_13 o12_13 o120_13 o121_13 o122_13 o123_13 o124_13 o125_13 o126_13 o127_13 o128_13 o129_13 o130_13 o131_13 o132_13 o133_13 o134_13 o135_13 o136_13 o137_13 o138_13 o139_13 o140_13 o141_13 o142_13 o143_13 o144_13 o145_13 o146_13 o147_13 o148_13 o149_13 o150_13 o151_13 o152_13 o153_13 o154_13 o155_13 o156_13 o157_13 o158_13 o159_13 o160_13 o161_13 o162_13 o163_13 o164_13 o165_13 o166_13 o167_13 o168_13 o169_13 o170_13 o171_13 o172_13 o173_13 o174_13 o175_13 o176_13 => new_28 (List Obj) (fun o3_28 o12_28 o177_28 o178_28 o179_28 o180_28 o181_28 o182_28 o183_28 o184_28 o185_28 o186_28 o187_28 o188_28 o189_28 o190_28 o191_28 o192_28 o193_28 o194_28 o195_28 o196_28 o197_28 o198_28 o199_28 o200_28 o201_28 o202_28 o203_28 o204_28 o205_28 o206_28 o207_28 o208_28 o209_28 o210_28 o211_28 o212_28 o213_28 o214_28 o215_28 o216_28 o217_28 o218_28 o219_28 o220_28 o221_28 o222_28 o223_28 o224_28 o225_28 o226_28 o227_28 o228_28 o229_28 o230_28 o231_28 o232_28 o233_28 o234_28 o235_28 o236_28 o237_28 o238_28 o239_28 o240_28 o241_28 o242_28 o243_28 o244_28 o245_28 o246_28 o247_28 o248_28 o249_28 o250_28 o251_28 o252_28 o253_28 o254_28 o255_28 o256_28 o257_28 o258_28 =>
  (boot_o_0 P :: boot_o_1 P :: boot_o_2 P :: o3_28 :: boot_o_4 P :: boot_o_5 P :: boot_o_6 P :: boot_o_7 P :: boot_o_8 P :: boot_o_9 P :: boot_o_10 P :: o11_pre :: o12_28 :: o13_pre :: o14_pre :: o15_4 :: o16_4 :: o17_4 :: o18_4 :: o19_4 :: o20_4 :: o21_4 :: o22_4 :: o23_4 :: o24_4 :: o25_4 :: o26_4 :: o27_4 :: o28_4 :: o29_4 :: o30_4 :: o31_4 :: o32_4 :: o33_4 :: o34_4 :: o35_4 :: o36_4 :: o37_4 :: o38_4 :: o39_4 :: o40_4 :: o41_4 :: o42_4 :: o43_4 :: o44_4 :: o45_4 :: o46_7 :: o47_7 :: o48_7 :: o49_7 :: o50_7 :: o51_7 :: o52_7 :: o53_7 :: o54_7 :: o55_7 :: o56_7 :: o57_7 :: o58_7 :: o59_7 :: o60_7 :: o61_7 :: o62_7 :: o63_7 :: o64_7 :: o65_7 :: o66_7 :: o67_7 :: o68_7 :: o69_7 :: o70_7 :: o71_7 :: o72_7 :: o73_7 :: o74_7 :: o75_7 :: o76_7 :: o77_7 :: o78_10 :: o79_10 :: o80_10 :: o81_10 :: o82_10 :: o83_10 :: o84_10 :: o85_10 :: o86_10 :: o87_10 :: o88_10 :: o89_10 :: o90_10 :: o91_10 :: o92_10 :: o93_10 :: o94_10 :: o95_10 :: o96_10 :: o97_10 :: o98_10 :: o99_10 :: o100_10 :: o101_10 :: o102_10 :: o103_10 :: o104_10 :: o105_10 :: o106_10 :: o107_10 :: o108_10 :: o109_10 :: o110_10 :: o111_10 :: o112_10 :: o113_10 :: o114_10 :: o115_10 :: o116_10 :: o117_10 :: o118_10 :: o119_10 :: o120_13 :: o121_13 :: o122_13 :: o123_13 :: o124_13 :: o125_13 :: o126_13 :: o127_13 :: o128_13 :: o129_13 :: o130_13 :: o131_13 :: o132_13 :: o133_13 :: o134_13 :: o135_13 :: o136_13 :: o137_13 :: o138_13 :: o139_13 :: o140_13 :: o141_13 :: o142_13 :: o143_13 :: o144_13 :: o145_13 :: o146_13 :: o147_13 :: o148_13 :: o149_13 :: o150_13 :: o151_13 :: o152_13 :: o153_13 :: o154_13 :: o155_13 :: o156_13 :: o157_13 :: o158_13 :: o159_13 :: o160_13 :: o161_13 :: o162_13 :: o163_13 :: o164_13 :: o165_13 :: o166_13 :: o167_13 :: o168_13 :: o169_13 :: o170_13 :: o171_13 :: o172_13 :: o173_13 :: o174_13 :: o175_13 :: o176_13 :: o177_28 :: o178_28 :: o179_28 :: o180_28 :: o181_28 :: o182_28 :: o183_28 :: o184_28 :: o185_28 :: o186_28 :: o187_28 :: o188_28 :: o189_28 :: o190_28 :: o191_28 :: o192_28 :: o193_28 :: o194_28 :: o195_28 :: o196_28 :: o197_28 :: o198_28 :: o199_28 :: o200_28 :: o201_28 :: o202_28 :: o203_28 :: o204_28 :: o205_28 :: o206_28 :: o207_28 :: o208_28 :: o209_28 :: o210_28 :: o211_28 :: o212_28 :: o213_28 :: o214_28 :: o215_28 :: o216_28 :: o217_28 :: o218_28 :: o219_28 :: o220_28 :: o221_28 :: o222_28 :: o223_28 :: o224_28 :: o225_28 :: o226_28 :: o227_28 :: o228_28 :: o229_28 :: o230_28 :: o231_28 :: o232_28 :: o233_28 :: o234_28 :: o235_28 :: o236_28 :: o237_28 :: o238_28 :: o239_28 :: o240_28 :: o241_28 :: o242_28 :: o243_28 :: o244_28 :: o245_28 :: o246_28 :: o247_28 :: o248_28 :: o249_28 :: o250_28 :: o251_28 :: o252_28 :: o253_28 :: o254_28 :: o255_28 :: o256_28 :: o257_28 :: o258_28 :: [])) P) P) P) P) P) P
noncomputable def heapF (P : Params) : Heap := ⟨Array.mk (objsF P), {}⟩
noncomputable abbrev P47 : Program := PySem.Challenge.rw_ok0047_01.row.prog
noncomputable def env47 : Env := { scope := P47.main.scope, locals := mainNs, globals := mainNs, cells := [], code := .ref 13, frame := some 14 }
noncomputable def code47 : Code := .body (behindTheImports P47) env47
noncomputable def seg47 (i n : Nat) : List Stmt := ((behindTheImports P47).drop i).take n
abbrev B47 : List Frame := [topFrame ⟨0, 0, 0, 0⟩]
noncomputable abbrev S_pre (w : World) (os : OsState) : SharedT := ⟨tree_pre w.params, 15, {}, Array.mk [], {}, 187, os⟩
noncomputable abbrev S_4 (w : World) (os : OsState) : SharedT := ⟨tree_4 w.params, 46, {}, Array.mk [], {}, 237, os⟩
noncomputable abbrev S_7 (w : World) (os : OsState) : SharedT := ⟨tree_7 w.params, 78, {}, Array.mk [], {}, 288, os⟩
noncomputable abbrev S_10 (w : World) (os : OsState) : SharedT := ⟨tree_10 w.params, 120, {}, Array.mk [], {}, 343, os⟩
noncomputable abbrev S_13 (w : World) (os : OsState) : SharedT := ⟨tree_13 w.params, 177, {}, Array.mk [], {}, 418, os⟩
noncomputable abbrev S_28 (w : World) (os : OsState) : SharedT := ⟨tree_28 w.params, 259, {}, Array.mk [], {}, 520, os⟩
theorem pre47 (w : World) : (fun os => topGo treeTable P47 w 11 (some (.ref 6)) 12 ⟨boot_heap w.params, Array.mk [], boot_drawn, boot_toks, os⟩ (topStub P47)) = fun os => some ((S_pre w os).abs, ⟨denote treeTable code47, code47, ⟨0, 0, 0, 0⟩, B47⟩) := by
  kernel_rfl
theorem block47 (w : World) : (fun os => segRunT treeTable P47 w 11 (some (.ref 6)) 1 1 (S_pre w os) (blockOf (behindTheImports P47) env47 code47 ⟨0, 0, 0, 0⟩ B47)) = fun os => some (.next, S_pre w os, code47, ⟨0, 0, 0, 0⟩) := by
  kernel_rfl
theorem run_4 (w : World) : (fun os => segRunT treeTable P47 w 11 (some (.ref 6)) 1 400 (S_pre w os) (piecesOf (seg47 0 4) env47 code47 ⟨0, 0, 0, 0⟩ B47)) = fun os => some (.next, S_4 w os, code47, ⟨10, 0, 10, 3⟩) := by
  rw [PySem.W.Fast.te10110043849684766642, PySem.W.Fast.te14364793385576792824]
  kernel_rfl
theorem run_7 (w : World) : (fun os => segRunT treeTable P47 w 11 (some (.ref 6)) 1 397 (S_4 w os) (piecesOf (seg47 4 3) env47 code47 ⟨10, 0, 10, 3⟩ B47)) = fun os => some (.next, S_7 w os, code47, ⟨17, 0, 21, 16⟩) := by
  rw [PySem.W.Fast.te10110043849684766642, PySem.W.Fast.te14364793385576792824]
  kernel_rfl
theorem run_10 (w : World) : (fun os => segRunT treeTable P47 w 11 (some (.ref 6)) 1 326 (S_7 w os) (piecesOf (seg47 7 3) env47 code47 ⟨17, 0, 21, 16⟩ B47)) = fun os => some (.next, S_10 w os, code47, ⟨25, 0, 38, 40⟩) := by
  rw [PySem.W.Fast.te10110043849684766642, PySem.W.Fast.te14364793385576792824]
  kernel_rfl
theorem run_13 (w : World) : (fun os => segRunT treeTable P47 w 11 (some (.ref 6)) 1 390 (S_10 w os) (piecesOf (seg47 10 3) env47 code47 ⟨25, 0, 38, 40⟩ B47)) = fun os => some (.next, S_13 w os, code47, ⟨60, 0, 61, 34⟩) := by
  rw [PySem.W.Fast.te10110043849684766642, PySem.W.Fast.te14364793385576792824]
  kernel_rfl
theorem run_28 (w : World) : (fun os => segRunT treeTable P47 w 11 (some (.ref 6)) 1 402 (S_13 w os) (piecesOf (seg47 13 15) env47 code47 ⟨60, 0, 61, 34⟩ B47)) = fun os => some (.next, S_28 w os, code47, ⟨133, 0, 155, 52⟩) := by
  rw [PySem.W.Fast.te10110043849684766642, PySem.W.Fast.te14364793385576792824]
  kernel_rfl
theorem fin47 (w : World) : (fun os => topRun treeTable P47 w 11 (some (.ref 6)) 2 (S_28 w os).abs ⟨doneF .next, code47, ⟨133, 0, 155, 52⟩, B47⟩) = fun os => some (⟨heapF w.params, Array.mk [], {}, 520, os⟩ : Shared) := by
  kernel_rfl
theorem split47 : behindTheImports P47 = seg47 0 4 ++ (seg47 4 3 ++ (seg47 7 3 ++ (seg47 10 3 ++ (seg47 13 15 ++ [])))) := by
  kernel_rfl
theorem top47 (w : World) (os : OsState) : topRun treeTable P47 w 11 (some (.ref 6)) (12 + (1 + (400 + (397 + (326 + (390 + (402 + (2)))))))) ⟨boot_heap w.params, Array.mk [], boot_drawn, boot_toks, os⟩ (topStub P47) = some ⟨heapF w.params, Array.mk [], {}, 520, os⟩ := by
  refine go_top (congrFun (pre47 w) os) (piece_block (segRun_of (congrFun (block47 w) os)) ?_)
  have h := (piece_app (segRun_of (congrFun (run_4 w) os)) (piece_app (segRun_of (congrFun (run_7 w) os)) (piece_app (segRun_of (congrFun (run_10 w) os)) (piece_app (segRun_of (congrFun (run_13 w) os)) (piece_app (segRun_of (congrFun (run_28 w) os)) (piece_nil (env := env47) (congrFun (fin47 w) os)))))))
  rw [← split47] at h
  exact h
theorem opens47 : opening P47 = plainProg P47.main.scope.names := by kernel_rfl
theorem fence47 (s : Shared) : fenceModules? P47 s = some s := by kernel_rfl
theorem size47 (w : World) : ((boot_heap w.params).isNs mainGlobals && (Array.mk [] : Array GenState).size == 0, (boot_heap w.params).objs.size, (boot_heap w.params).nsMap mainGlobals "__annotations__") = (true, 11, some (.ref 6)) := by
  kernel_rfl
theorem looks47 (w : World) : (fun os => ((staticsOk (importedModules P47.main.body) (boot_heap w.params) (heapF w.params) && namesBound P47 (heapF w.params) && gensDone ⟨heapF w.params, Array.mk [], {}, 520, os⟩ && laidKept (boot_heap w.params) (heapF w.params)),
        openSeen hd47.view_39 loose47 (importedModules P47.main.body) (fun s => xlAt hd47.view_39 [] s && recOk (RowW.records PySem.Challenge.rw_ok0047_01.row.toRowW) s) true ⟨heapF w.params, Array.mk [], {}, 520, os⟩, (Hook.obs (kHook hd47.heap_39 addrs47 addrs_ok)) ⟨heapF w.params, Array.mk [], {}, 520, os⟩)) = fun _ => (true, openGood hd47.view_39 loose47, (Hook.val (kHook hd47.heap_39 addrs47 addrs_ok)) w) := by
  kernel_rfl
theorem left47 : LeftO PySem.Challenge.rw_ok0047_01.row.prog hd47.view_39 loose47 (fun s => xlAt hd47.view_39 [] s && recOk (RowW.records PySem.Challenge.rw_ok0047_01.row.toRowW) s) (Hook.obs (kHook hd47.heap_39 addrs47 addrs_ok)) (Hook.val (kHook hd47.heap_39 addrs47 addrs_ok)) 3946 := 
  LeftO.of_pieces (boot_open opens47 (by decide) fence47) size47 top47 (by decide) looks47
noncomputable def d47 : DefRec := { name := Str.ofString "law", params := pA27, body := pB27, scope := pS27, pos := ⟨133, 0, 155, 52⟩ }
theorem said47 : OpenLaw.wellSaid PySem.Challenge.rw_ok0047_01 = true := by
  unfold OpenLaw.wellSaid OpenRow.wellSaid OpenRow.partSaid looksOpen
  repeat' with_reducible refine look_both ?_ ?_
  all_goals (try rw [PySem.W.Fast.named_eq]); (try rw [PySem.W.Fast.te8326940854005059898]); (try rw [PySem.W.Fast.te17119622794617984870]); (try rw [PySem.W.Fast.te8377067652309620493]); (try rw [PySem.W.Fast.te17868728402115742887]); (try rw [PySem.W.Fast.te16286561074155671207]); (try rw [PySem.W.Fast.te6984425678791042302]); (try rw [PySem.W.Fast.te13343964577679436407]); (try rw [PySem.W.Fast.te8179353310426384613])
  all_goals decide +kernel
theorem hd47 (call : WalkO hd47.view_39 loose47 (XL hd47.view_39 []) (kHook hd47.heap_39 addrs47 addrs_ok).says PySem.Challenge.rw_ok0047_01.row.toRowW d47 [] (fun f vs => PySem.call f vs)) : PySem.Challenge.rw_ok0047_01.Holds := by
  refine holds_law said47 fun said => ?_
  refine holds_open (q := hd47.view_39) (loose := loose47) (Xt := fun s => xlAt hd47.view_39 [] s && recOk (RowW.records PySem.Challenge.rw_ok0047_01.row.toRowW) s) (XP := XL hd47.view_39 []) (Yf := Hook.obs (kHook hd47.heap_39 addrs47 addrs_ok)) (Ya := Hook.val (kHook hd47.heap_39 addrs47 addrs_ok)) (YP := Hook.says (kHook hd47.heap_39 addrs47 addrs_ok)) (d := d47) (kwd := []) (N := 3946) left47 (Hook.of _) (Hook.keeps _) (fun s e => xl_of s (Bool.and_eq_true_iff.mp e).1) XL.keeps (by kernel_rfl) (by kernel_rfl) (by kernel_rfl) (fun s e => recFacts_of (Bool.and_eq_true_iff.mp e).2) (by kernel_rfl) said (by kernel_rfl) ⟨rfl, rfl, rfl, rfl, rfl, by decide +kernel⟩ ?hw call
  case hw => w_witness2

end

theorem calm1 : True := by
  w_top off
  exact True.intro
section

noncomputable abbrev lo : List Str := looseW hd47.view_39 [Str.ofString "NIL", Str.ofString "T", Str.ofString "list_of", Str.ofString "line_task"]
noncomputable abbrev Tp (mg mb : Str → Option Value) (mean : ExcName → Option Value) (h : Heap) : Prop := Top hd47.view_39 lo mean mg mb h

/-- all that stood, but what lies at X, stands -/
def Kept (X : List Addr) (h h' : Heap) : Prop := ∀ b o, h.get? b = some o → b ∉ X → h'.get? b = some o

theorem weaken {α : Type} {M : Model} {A A' : Around} {t : Sem α} {Q : α → Shared → Prop} {E : Value → Shared → Prop} {s : Shared} (h : wpAny M A' t Q E s)
    (hh : A.handled = A'.handled) (hd : A.depth ≤ A'.depth) (hf : A'.frames = A.frames) (hg : A'.guards = A.guards) (hu : A.units ≤ A'.units) : wpAny M A t Q E s :=
  fun Γ p hΓ => h Γ p ⟨hΓ.1.trans hh, Nat.le_trans hΓ.2.1 hd, fun l hl => hΓ.2.2.1 l (hf ▸ hl), fun g hl => hΓ.2.2.2.1 g (hg ▸ hl), Nat.le_trans hΓ.2.2.2.2 hu⟩

/-- a contract of one call -/
def Ct (w : World) (mg mb : Str → Option Value) (mean : ExcName → Option Value) (D U : Nat) (f : Addr) (vs : List Value) (s : Shared) (X : List Addr) (Post : Value → Heap → Prop) : Prop :=
  ∀ (gd : Option (List Code)) (cn : Str) (cs : Scope) (a : Addr) (ccd : Value) (cl : List (Str × Addr)) (outer : List Env) (A₀ : Around) (base h₀ : Heap) (L : Addr) (m : Str → Option Value) (Q E : Value → Shared → Prop),
    Below A₀ base outer h₀ → Fr h₀ L s.heap m → (hd47.heap_39 w.params).In h₀ → Tp mg mb mean h₀ → cs.kind = .function → (∀ x ∈ X, h₀.get? x = none ∧ x ≠ L) →
    (∀ r h' tk', Kept X s.heap h' → Post r h' → Q r { s with heap := h', toks := tk' }) →
    wpAny (model PySem.Challenge.rw_ok0047_01.row.prog w) (ktrTop D U gd cn cs L a ccd cl outer) (call (.ref f) vs) Q E s

/-- the pot: where the script's ints lie, the place, the number behind -/
abbrev potO (l : Addr) (at' : Int) (ta : Tok) (x : Int) (tx : Tok) (n : Nat) : Obj := listOf (List.toArray [.ref l, .int at' ta, .int x tx]) n
def PotAt (h : Heap) (p l : Addr) : Prop := ∃ at' ta x tx n, h.get? p = some (potO l at' ta x tx n) ∧ 0 ≤ at' ∧ 0 ≤ x ∧ x < 100000
def IntsAt (h : Heap) (l : Addr) : Prop := ∃ vs ns, h.IsList l (List.toArray vs) ∧ IntsAre vs ns ∧ ns.length ≤ 63

/-- a goal where the walk is to stop -/
def Stop (P : Prop) : Prop := P
theorem Stop.out {P : Prop} (h : Stop P) : P := h
theorem Stop.mk {P : Prop} (h : P) : Stop P := h
end

theorem calm2 : True := by
  w_top off
  exact True.intro
section

theorem Kept.refl {X : List Addr} {h : Heap} : Kept X h h := fun _ _ e _ => e
theorem Kept.trans {X : List Addr} {h h' h'' : Heap} (a : Kept X h h') (b : Kept X h' h'') : Kept X h h'' := fun c o e n => b c o (a c o e n) n
theorem Kept.mono {X Y : List Addr} {h h' : Heap} (a : Kept X h h') (s : ∀ x ∈ X, x ∈ Y) : Kept Y h h' := fun c o e n => a c o e fun q => n (s c q)
theorem Kept.ns {X : List Addr} {h h' : Heap} {C : Addr} {m : Str → Option Value} (k : Kept X h h') (n : h.Ns C m) (hC : C ∉ X) : h'.Ns C m := n.at' fun o e => k C o e hC
theorem ns_alive {h : Heap} {C : Addr} {m : Str → Option Value} (n : h.Ns C m) : ∃ o, h.get? C = some o := let ⟨o, _, _, e, _⟩ := n; ⟨o, e⟩

section
variable {prog : Program} {w : World} {A : Around} {R : Result → Shared → Prop} {s : Shared}

abbrev testsIn (ifs : List Expr) (cenv : Env) : Sem Bool := forIn ifs true fun c r => if r = true then do let ok ← isTrue c cenv (eval c cenv); pure (ForInStep.yield ok) else pure (ForInStep.yield r)

def TurnJ (prog : Program) (w : World) (A : Around) (ifs : List Expr) (elt : Expr) (cenv : Env) (X : List Addr) (J : Nat → List Value → Heap → Prop) (i : Nat) (ys : List Value) (s₂ : Shared) : Prop :=
  ∀ E' : Value → Shared → Prop, wpAny (model prog w) A (testsIn ifs cenv)
    (fun ok s₃ => if ok = true then wpAny (model prog w) A (eval elt cenv) (fun y s₄ => ∃ h₄ tk₄, s₄ = { s₂ with heap := h₄, toks := tk₄ } ∧ Kept X s₂.heap h₄ ∧ J (i + 1) (ys ++ [y]) h₄) E' s₃
      else ∃ h₃ tk₃, s₃ = { s₂ with heap := h₃, toks := tk₃ } ∧ Kept X s₂.heap h₃ ∧ J (i + 1) ys h₃) E' s₂

theorem compLoopJ {elt iter : Expr} {x : Str} {px : Pos} {ifs : List Expr} {scope : Scope} {pos : Pos} {I D : Addr} {fp wr X : List Addr} {n : Nat} {P : Nat → Value → Prop} {St : Nat → Heap → Prop}
    {cenv : Env} {m : Str → Option Value} (W : Walks prog w A I fp wr n P St) (J : Nat → List Value → Heap → Prop)
    (hlive : ∀ i h, St i h → ∀ b ∈ wr, ∃ o, h.get? b = some o)
    (hx : cenv.kindOf x = some .local) (hp : (cenv.scope.kind == .class || (cenv.scope.kind == .module && cenv.locals != cenv.globals)) = false)
    (hDC : D ≠ cenv.locals) (hDf : D ∉ fp) (hCf : cenv.locals ∉ fp) (hXD : D ∉ X) (hXC : cenv.locals ∉ X) (hXf : ∀ b ∈ fp, b ∉ X)
    (hst : St 0 s.heap) (hacc : s.heap.PlainList D #[]) (hn : s.heap.Ns cenv.locals m) (hJ0 : J 0 [] s.heap)
    (hJk : ∀ i ys h h', J i ys h → (∀ b o, b ≠ cenv.locals → b ∉ wr → b ≠ D → h.get? b = some o → h'.get? b = some o) → J i ys h')
    (turn : ∀ i v ys s₂ m₂, i < n → P i v → J i ys s₂.heap → s₂.heap.Ns cenv.locals m₂ → m₂ x = some v → (∃ o, s₂.heap.get? D = some o) → (∀ b ∈ wr, ∃ o, s₂.heap.get? b = some o) →
      (∀ b o, b ≠ cenv.locals → b ∉ wr → b ≠ D → b ∉ X → s.heap.get? b = some o → s₂.heap.get? b = some o) → s₂.gens = s.gens → TurnJ prog w A ifs elt cenv X J i ys s₂)
    (hR : ∀ h' tk m' ys, h'.Ns cenv.locals m' → h'.PlainList D (List.toArray ys) → ys.length ≤ n → J n ys h' →
      (∀ b o, b ≠ cenv.locals → b ∉ wr → b ≠ D → b ∉ X → s.heap.get? b = some o → h'.get? b = some o) → R (.ok .next) { s with heap := h', toks := tk })
    (hsz : n ≤ sizeLine) :
    codeAny (model prog w) A (.compLoop (.ListComp elt [⟨.Name x px, iter, ifs, 0⟩] scope pos) 0 (.ref I) (.ref D) cenv) R s := by
  refine codeAny_compLoop_tests
    (fun k s' => ∃ h' tk m' ys i, s' = { s with heap := h', toks := tk } ∧ St i h' ∧ h'.PlainList D (List.toArray ys) ∧ h'.Ns cenv.locals m' ∧ J i ys h' ∧ ys.length ≤ i ∧ i ≤ n ∧ k = n + 1 - i ∧
      (∀ b o, b ≠ cenv.locals → b ∉ wr → b ≠ D → b ∉ X → s.heap.get? b = some o → h'.get? b = some o)) ?_ (n + 1)
    ⟨s.heap, s.toks, m, [], 0, rfl, hst, hacc, hn, hJ0, Nat.le_refl _, Nat.zero_le _, rfl, fun _ _ _ _ _ _ e => e⟩
  rintro k s' ⟨H, tk, m', ys, i, rfl, hst', hacc', hn', hJ, hyi, hi, rfl, hk⟩
  have hCw : cenv.locals ∉ wr := fun h => hCf (W.sub _ h)
  have hDw : D ∉ wr := fun h => hDf (W.sub _ h)
  by_cases hlt : i < n
  · refine W.item i _ _ _ hlt hst' fun v h₁ tk₁ hPv hst₁ hk₁ => ?_
    refine wpAny_assign_Name (wpAny_storeName_local hx (hn'.at' fun o e => hk₁ _ o hCw e) (fun h₂ hn₂ hs₂ => ?_) hp)
    have up₂ : ∀ b o, b ≠ cenv.locals → b ∉ wr → H.get? b = some o → h₂.get? b = some o := fun b o hbC hbf e => hs₂.extBut b o hbC (hk₁ b o hbf e)
    have hst₂ : St (i + 1) h₂ := W.frame _ _ _ hst₁ fun b hb o e => hs₂.extBut b o (fun h => hCf (h ▸ hb)) e
    have hJ₂ : J i ys h₂ := hJk _ _ _ _ hJ fun b o hbC hbw _ e => up₂ b o hbC hbw e
    have hacc₂ : h₂.PlainList D (List.toArray ys) := hacc'.at fun o e => up₂ D o hDC hDw e
    have hDa : ∃ o, h₂.get? D = some o := let ⟨_, e⟩ := hacc₂; ⟨_, e⟩
    refine wpAny_mono (turn i v ys { s with heap := h₂, toks := tk₁ + 1 } (fun y => if y = x then some v else m' y) hlt hPv hJ₂ hn₂ (if_pos rfl) hDa (hlive _ _ hst₂) (fun b o hbC hbw hbD hbX e => up₂ b o hbC hbw (hk b o hbC hbw hbD hbX e)) rfl _) (fun ok s₃ h₃ => ?_) fun _ _ e => e
    cases ok with
    | false =>
      simp only [Bool.false_eq_true, if_false] at h₃ ⊢
      obtain ⟨h₃, tk₃, rfl, hk₃, hJ₃⟩ := h₃
      refine ⟨n + 1 - (i + 1), by omega, h₃, tk₃, _, ys, i + 1, rfl, W.frame _ _ _ hst₂ fun b hb o e => hk₃ b o e (hXf b hb), hacc₂.at fun o e => hk₃ D o e hXD, hk₃.ns hn₂ hXC, hJ₃, by omega, by omega, rfl, fun b o hbC hbw hbD hbX e => hk₃ b o (up₂ b o hbC hbw (hk b o hbC hbw hbD hbX e)) hbX⟩
    | true =>
      simp only [if_true] at h₃ ⊢
      refine wpAny_mono h₃ (fun y s₄ h₄ => ?_) fun _ _ e => e
      obtain ⟨h₄, tk₄, rfl, hk₄, hJ₄⟩ := h₄
      have hacc₄ : h₄.PlainList D (List.toArray ys) := hacc₂.at fun o e => hk₄ D o e hXD
      refine wpAny_list_append_plain (hsz := by show ys.length ≤ sizeLine; omega) hacc₄ fun h₅ hl₅ hs₅ => ?_
      refine ⟨n + 1 - (i + 1), by omega, h₅, tk₄, _, ys ++ [y], i + 1, rfl, ?_, by simpa using hl₅, (hk₄.ns hn₂ hXC).sameBut hs₅ (Ne.symm hDC), ?_, by simp; omega, by omega, rfl, ?_⟩
      · exact W.frame _ _ _ hst₂ fun b hb o e => hs₅.extBut b o (fun h => hDf (h ▸ hb)) (hk₄ b o e (hXf b hb))
      · exact hJk _ _ _ _ hJ₄ fun b o _ _ hbD e => hs₅.extBut b o hbD e
      · exact fun b o hbC hbw hbD hbX e => hs₅.extBut b o hbD (hk₄ b o (up₂ b o hbC hbw (hk b o hbC hbw hbD hbX e)) hbX)
  · have hin : i = n := by omega
    subst hin
    refine W.done _ _ _ hst' fun h₁ tk₁ hk₁ => ?_
    exact hR h₁ tk₁ m' ys (hn'.at' fun o e => hk₁ _ o hCw e) (hacc'.at fun o e => hk₁ _ o hDw e) hyi (hJk _ _ _ _ hJ fun b o _ hbw _ e => hk₁ b o hbw e) fun b o hbC hbw hbD hbX e => hk₁ b o hbw (hk b o hbC hbw hbD hbX e)
end

section
variable {prog : Program} {w : World} {A : Around} {E : Value → Shared → Prop} {env : Env}

theorem compBlockJ {elt iter : Expr} {x : Str} {px : Pos} {ifs : List Expr} {scope : Scope} {cl : List (Str × Addr)} {pos : Pos} {s₂ : Shared} {I : Addr} {fp wr X : List Addr} {n : Nat} {P : Nat → Value → Prop}
    {St : Nat → Heap → Prop} (W : Walks prog w A I fp wr n P St) (hsz : n ≤ sizeLine) (J : Addr → Addr → Nat → List Value → Heap → Prop) {RR : Value → Addr → Result → Shared → Prop}
    (hlive : ∀ i h, St i h → ∀ b ∈ wr, ∃ o, h.get? b = some o)
    (hcell : ∀ y ∈ scope.names, y.2 ≠ .cell) (hkind : scope.kind = .function) (hx : scope.names.lookup x = some .local) (hst : St 0 s₂.heap) (hfp : ∀ b ∈ fp, b < s₂.heap.objs.size ∧ b ∉ X) (hX : ∀ b ∈ X, b < s₂.heap.objs.size)
    (hJ0 : ∀ C D h, (∀ b o, s₂.heap.get? b = some o → h.get? b = some o) → J C D 0 [] h)
    (hJk : ∀ C D i ys h h', s₂.heap.get? C = none → s₂.heap.get? D = none → J C D i ys h → (∀ b o, b ≠ C → b ∉ wr → b ≠ D → h.get? b = some o → h'.get? b = some o) → J C D i ys h')
    (turn : ∀ C D i v ys s₃ m₃, s₂.heap.get? C = none → s₂.heap.get? D = none → C ≠ D → i < n → P i v → J C D i ys s₃.heap → s₃.heap.Ns C m₃ → m₃ x = some v → (∃ o, s₃.heap.get? D = some o) → (∀ b ∈ wr, ∃ o, s₃.heap.get? b = some o) →
      (∀ b o, b ∉ wr → b ∉ X → s₂.heap.get? b = some o → s₃.heap.get? b = some o) → s₃.gens = s₂.gens → TurnJ prog w A ifs elt (compEnvC scope cl C env) X (J C D) i ys s₃)
    (hRR : ∀ D C h' tk m' ys, s₂.heap.get? D = none → s₂.heap.get? C = none → D ≠ C → h'.Ns C m' → h'.PlainList D (List.toArray ys) → ys.length ≤ n → J C D n ys h' →
      (∀ b o, b ∉ wr → b ∉ X → s₂.heap.get? b = some o → h'.get? b = some o) → RR (.ref D) C (.ok .next) { s₂ with heap := h', toks := tk }) :
    wpAny (model prog w) A (newList []) (fun acc s₃ => wpAny (model prog w) A (newFunctionEnv scope env.globals cl [] env.qual none .none (some env)) (fun cenv s₄ =>
      codeAny (model prog w) A (.compStart (.ListComp elt [⟨.Name x px, iter, ifs, 0⟩] scope pos) 0 (.ref I) acc { cenv with scope := relabel scope env }) (RR acc cenv.locals) s₄) E s₃) E s₂ := by
  refine wpAny_newObj_type (wpAny_newFunctionEnv hcell (by intro y hy; simp at hy) (fun h₁ hns₁ hsb₁ => ?_) hkind)
  dsimp only at hns₁ hsb₁ ⊢
  generalize hH2 : s₂.heap.push { cls := .type "list", dict := none, data := .seq ([] : List Value).toArray } = H2 at hns₁ hsb₁ ⊢
  have hC : H2.objs.size = s₂.heap.objs.size + 1 := by rw [← hH2, Heap.size_push]
  have hDC : s₂.heap.objs.size ≠ H2.objs.size := by rw [hC]; exact Nat.ne_of_lt (Nat.lt_succ_self _)
  have below : ∀ b, b < s₂.heap.objs.size → b ≠ H2.objs.size ∧ b ≠ s₂.heap.objs.size := fun b hb => ⟨by rw [hC]; exact Nat.ne_of_lt (Nat.lt_succ_of_lt hb), Nat.ne_of_lt hb⟩
  have hDf : s₂.heap.objs.size ∉ fp := fun hm => Nat.lt_irrefl _ (hfp _ hm).1
  have hCf : H2.objs.size ∉ fp := fun hm => by have := (hfp _ hm).1; rw [hC] at this; exact Nat.lt_irrefl _ (Nat.lt_of_succ_lt this)
  have hDX : s₂.heap.objs.size ∉ X := fun hm => Nat.lt_irrefl _ (hX _ hm)
  have hCX : H2.objs.size ∉ X := fun hm => by have := hX _ hm; rw [hC] at this; exact Nat.lt_irrefl _ (Nat.lt_of_succ_lt this)
  have old : ∀ b o, s₂.heap.get? b = some o → h₁.get? b = some o := fun b o e => hsb₁.extBut b o (below b (Heap.lt_size e)).1 (Heap.get?_push_of_some _ (hH2 ▸ Heap.get?_push_of_some _ e))
  have hacc : h₁.PlainList s₂.heap.objs.size #[] := ⟨_, hsb₁.extBut _ _ hDC (Heap.get?_push_of_some _ (hH2 ▸ Heap.get?_push_size _ rfl))⟩
  have hst₁ : St 0 h₁ := W.frame _ _ _ hst fun b _ o e => old b o e
  have fresh : ∀ a, s₂.heap.objs.size ≤ a → s₂.heap.get? a = none := fun a ha => by
    cases e : s₂.heap.get? a with
    | none => rfl
    | some o' => exact absurd (Heap.lt_size e) (Nat.not_lt.mpr ha)
  have fD := fresh s₂.heap.objs.size (Nat.le_refl _)
  have fC := fresh H2.objs.size (by rw [hC]; exact Nat.le_succ _)
  have loop : ∀ s₃ : Shared, s₃ = { s₂ with heap := h₁, toks := s₂.toks + ([] : List (Str × Value)).length } →
      codeAny (model prog w) A (.compLoop (.ListComp elt [⟨.Name x px, iter, ifs, 0⟩] scope pos) 0 (.ref I) (.ref s₂.heap.objs.size) (compEnvC scope cl H2.objs.size env))
        (RR (.ref s₂.heap.objs.size) H2.objs.size) s₃ := by
    rintro s₃ rfl
    refine compLoopJ (X := X) (hsz := hsz) (cenv := compEnvC scope cl H2.objs.size env) W (J H2.objs.size s₂.heap.objs.size) hlive (lookup_relabel_local hx) (by simp [compEnvC, relabel, hkind]) hDC hDf hCf hDX hCX (fun b hb => (hfp b hb).2) hst₁ hacc hns₁ (hJ0 _ _ _ old) (fun i ys h h' j k => hJk _ _ i ys h h' fC fD j k)
      (fun i v ys s₃ m₃ hi hv hJ hn hm hD hw hk hg => turn _ _ i v ys s₃ m₃ fC fD (Ne.symm hDC) hi hv hJ hn hm hD hw (fun b o hbf hbX e => hk b o (below b (Heap.lt_size e)).1 hbf (below b (Heap.lt_size e)).2 hbX (old b o e)) hg) fun h' tk m' ys hn hpl hlen hJ hk => ?_
    exact hRR _ _ h' tk m' ys fD fC hDC hn hpl hlen hJ fun b o hbf hbX e =>
      hk b o (below b (Heap.lt_size e)).1 hbf (below b (Heap.lt_size e)).2 hbX (old b o e)
  exact codeAny_compStart_list (loop _ rfl) (W.self 0 _ _ _ hst₁ (loop _ rfl))

/-- what a comprehension asks behind its iterator -/
structure CompAsk (prog : Program) (w : World) (A : Around) (env : Env) (scope : Scope) (cl : List (Str × Addr)) (x : Str) (ifs : List Expr) (elt : Expr) (X : List Addr) (G : Addr → Addr → Heap → Nat → Prop) (I : Addr) (s₂ : Shared) where
  fp : List Addr
  wr : List Addr
  n : Nat
  P : Nat → Value → Prop
  St : Nat → Heap → Prop
  J : Addr → Addr → Nat → List Value → Heap → Prop
  W : Walks prog w A I fp wr n P St
  hsz : n ≤ sizeLine
  hlive : ∀ i h, St i h → ∀ b ∈ wr, ∃ o, h.get? b = some o
  hst : St 0 s₂.heap
  hfp : ∀ b ∈ fp, b < s₂.heap.objs.size ∧ b ∉ X
  hX : ∀ b ∈ X, b < s₂.heap.objs.size
  hJ0 : ∀ C D h, (∀ b o, s₂.heap.get? b = some o → h.get? b = some o) → J C D 0 [] h
  hJk : ∀ C D i ys h h', s₂.heap.get? C = none → s₂.heap.get? D = none → J C D i ys h → (∀ b o, b ≠ C → b ∉ wr → b ≠ D → h.get? b = some o → h'.get? b = some o) → J C D i ys h'
  turn : ∀ C D i v ys s₃ m₃, s₂.heap.get? C = none → s₂.heap.get? D = none → C ≠ D → i < n → P i v → J C D i ys s₃.heap → s₃.heap.Ns C m₃ → m₃ x = some v → (∃ o, s₃.heap.get? D = some o) → (∀ b ∈ wr, ∃ o, s₃.heap.get? b = some o) →
      (∀ b o, b ∉ wr → b ∉ X → s₂.heap.get? b = some o → s₃.heap.get? b = some o) → s₃.gens = s₂.gens → TurnJ prog w A ifs elt (compEnvC scope cl C env) X (J C D) i ys s₃
  done : ∀ D C h' tk ys, s₂.heap.get? D = none → s₂.heap.get? C = none → D ≠ C → h'.PlainList D (List.toArray ys) → ys.length ≤ n → J C D n ys h' →
      (∀ b o, b ∉ wr → b ∉ X → s₂.heap.get? b = some o → h'.get? b = some o) → G D C h' tk

/-- its end: the list, the block's names gone -/
def EndE (Q : Value → Shared → Prop) (s₂ : Shared) (D C : Addr) (h' : Heap) (tk : Nat) : Prop :=
  ∀ h'', (∀ b o, b ≠ C → h'.get? b = some o → h''.get? b = some o) → Q (.ref D) { s₂ with heap := h'', toks := tk }
/-- its end where it is stored under a name -/
def EndA (Q : Flow → Shared → Prop) (L : Addr) (m : Str → Option Value) (y : Str) (s₂ : Shared) (D C : Addr) (h' : Heap) (tk : Nat) : Prop :=
  ∀ h'', h''.Ns L (fun z => if z = y then some (.ref D) else m z) → (∀ b o, b ≠ C → b ≠ L → h'.get? b = some o → h''.get? b = some o) → Q .next { s₂ with heap := h'', toks := tk + 1 }

theorem ListCompJ {s : Shared} {elt iter : Expr} {x : Str} {px : Pos} {ifs : List Expr} {scope : Scope} {cl : List (Str × Addr)} {pos : Pos} {Q : Value → Shared → Prop} (X : List Addr)
    (hclos : closureFor scope env = pure cl) (hcell : ∀ y ∈ scope.names, y.2 ≠ .cell) (hkind : scope.kind = .function)
    (hnames : ∀ y ∈ scope.names, y.2 = .local → scope.names.lookup y.1 = some .local) (hx : scope.names.lookup x = some .local)
    (hs : ∀ x, foldedSetIterable iter env x = pure x)
    (h : wpAny (model prog w) A (eval iter env) (fun xv s₁ => Stop (wpAny (model prog w) A (pyIter xv) (fun it s₂ => ∃ I, it = .ref I ∧ Nonempty (CompAsk prog w A env scope cl x ifs elt X (EndE Q s₂) I s₂)) E s₁)) E s) :
    wpAny (model prog w) A (eval (.ListComp elt [⟨.Name x px, iter, ifs, 0⟩] scope pos) env) Q E s := by
  rw [eval_ListComp]
  refine wpAny_comprehension_free (use := none) rfl hs hclos hkind hnames (wpAny_mono h (fun xv s₁ h₁ => wpAny_mono h₁ (fun it s₂ h₂ => ?_) fun _ _ e => e) fun _ _ e => e)
  obtain ⟨I, rfl, ⟨c⟩⟩ := h₂
  refine compBlockJ (RR := fun acc C => compPost (model prog w) A E none Q acc C) c.W c.hsz c.J c.hlive hcell hkind hx c.hst c.hfp c.hX c.hJ0 c.hJk c.turn ?_
  intro D C h' tk m' ys hD hC hDC hn hpl hlen hJ hk
  exact ⟨m', hn, fun h'' hs'' => c.done D C h' tk ys hD hC hDC hpl hlen hJ hk h'' fun b o hb e => hs''.extBut b o hb e⟩

theorem Assign_ListCompJ {s : Shared} {elt iter : Expr} {x y : Str} {px py : Pos} {ifs : List Expr} {scope : Scope} {cl : List (Str × Addr)} {pos spos : Pos} {Q : Flow → Shared → Prop} (X : List Addr)
    (hsw : swapsWith (.ListComp elt [⟨.Name x px, iter, ifs, 0⟩] scope pos) (some (.Name y py)) spos.line env = pure true)
    (hclos : closureFor scope env = pure cl) (hcell : ∀ z ∈ scope.names, z.2 ≠ .cell) (hkind : scope.kind = .function)
    (hnames : ∀ z ∈ scope.names, z.2 = .local → scope.names.lookup z.1 = some .local) (hx : scope.names.lookup x = some .local)
    (hy : env.kindOf y = some .local) (hp : (env.scope.kind == .class || (env.scope.kind == .module && env.locals != env.globals)) = false) (hLX : env.locals ∉ X)
    (hs : ∀ x, foldedSetIterable iter env x = pure x)
    (h : wpAny (model prog w) A (eval iter env) (fun xv s₁ => Stop (wpAny (model prog w) A (pyIter xv) (fun it s₂ => ∃ I m, it = .ref I ∧ s₂.heap.Ns env.locals m ∧
      ∃ c : CompAsk prog w A env scope cl x ifs elt X (EndA Q env.locals m y s₂) I s₂, env.locals ∉ c.wr) E s₁)) E s) :
    wpAny (model prog w) A (exec (.Assign [.Name y py] (.ListComp elt [⟨.Name x px, iter, ifs, 0⟩] scope pos) spos) env) Q E s := by
  rw [exec_Assign_Name_used _ _ _ _ hsw]
  refine wpAny_bind (wpAny_standAt (wpAny_bind ?_))
  show wpAny _ A (do let _ ← comprehension (.ListComp elt [⟨.Name x px, iter, ifs, 0⟩] scope pos) scope env _ (newList []) false (eval iter env) (some (assign (.Name y py) env))) _ _ s
  refine wpAny_bind (wpAny_mono (wpAny_comprehension_free (use := some (assign (.Name y py) env)) (Q := fun _ s' => Q .next s') rfl hs hclos hkind hnames
    (wpAny_mono h (fun xv s₁ h₁ => wpAny_mono h₁ (fun it s₂ h₂ => ?_) fun _ _ e => e) fun _ _ e => e)) (fun _ s' hq => wpAny_pure (wpAny_pure hq)) fun _ _ e => e)
  obtain ⟨I, m, rfl, hn, c, hLw⟩ := h₂
  refine compBlockJ (RR := fun acc C => compPost (model prog w) A E (some (assign (.Name y py) env)) (fun _ s' => Q .next s') acc C) c.W c.hsz c.J c.hlive hcell hkind hx c.hst c.hfp c.hX c.hJ0 c.hJk c.turn ?_
  intro D C h' tk m' ys hD hC hDC hnC hpl hlen hJ hk
  have hLC : env.locals ≠ C := by rintro rfl; obtain ⟨o, _, _, ho, _⟩ := hn; rw [hC] at ho; cases ho
  have hLD : env.locals ≠ D := by rintro rfl; obtain ⟨o, _, _, ho, _⟩ := hn; rw [hD] at ho; cases ho
  show wpAny _ A (assign (.Name y py) env (.ref D)) _ _ _
  refine wpAny_assign_Name (wpAny_storeName_local hy (hn.at' fun o e => hk _ o hLw hLX e) (fun h₂ hn₂ hs₂ => ?_) hp)
  refine ⟨m', hnC.sameBut hs₂ (Ne.symm hLC), fun h₃ hs₃ => ?_⟩
  exact c.done D C h' tk ys hD hC hDC hpl hlen hJ hk h₃ (hn₂.sameBut hs₃ hLC) fun b o hbC hbL e => hs₃.extBut b o hbC (hs₂.extBut b o hbL e)
end
end

theorem calm3 : True := by
  w_top off
  exact True.intro
section
theorem fmod_in (a k : Int) (hk : 0 < k) : 0 ≤ a.fmod k ∧ a.fmod k < k := by
  rw [Int.fmod_eq_emod_of_nonneg a (Int.le_of_lt hk)]
  exact ⟨Int.emod_nonneg _ (by omega), Int.emod_lt_of_pos _ hk⟩
theorem pot_ne {h : Heap} {p l : Addr} (hp : PotAt h p l) (hl : IntsAt h l) : p ≠ l := by
  rintro rfl
  obtain ⟨at', ta, x, tx, n, ho, _⟩ := hp
  obtain ⟨vs, ns, ⟨o, ho', _, n', hd⟩, hI, _⟩ := hl
  rw [ho] at ho'
  cases ho'
  cases hd
  cases hI
theorem IntsAt.kept {X : List Addr} {h h' : Heap} {l : Addr} (i : IntsAt h l) (k : Kept X h h') (hl : l ∉ X) : IntsAt h' l :=
  let ⟨vs, ns, a, b⟩ := i; ⟨vs, ns, a.at fun o e => k _ o e hl, b⟩
theorem IntsAt.up {h h' : Heap} {l : Addr} (i : IntsAt h l) (k : ∀ b o, h.get? b = some o → h'.get? b = some o) : IntsAt h' l :=
  let ⟨vs, ns, a, b⟩ := i; ⟨vs, ns, a.at fun o e => k _ o e, b⟩
theorem IntsAt.news {h₀ h : Heap} {L l : Addr} {vs : List Value} {ns : List Int} {n : Nat} {news : List (Addr × Obj)} (N : News h₀ L h news) (hm : (l, listOf vs.toArray n) ∈ news) (hI : IntsAre vs ns) (hn : ns.length ≤ 63) : IntsAt h l :=
  ⟨vs, ns, ⟨_, N.get hm, rfl, _, rfl⟩, hI, hn⟩

theorem use_ct {w : World} {mg mb : Str → Option Value} {mean : ExcName → Option Value} {D U : Nat} {f : Addr} {vs : List Value} {s : Shared} {X : List Addr} {Post : Value → Heap → Prop} (C : Ct w mg mb mean D U f vs s X Post)
    {A A₀ : Around} {cn : Str} {cs : Scope} {a : Addr} {ccd : Value} {cl : List (Str × Addr)} {outer : List Env} {base h₀ : Heap} {L : Addr} {m : Str → Option Value} {Q E : Value → Shared → Prop}
    (hh : A.handled = none) (hd : A.depth ≤ D) (hu : A.units ≤ U) (hA : A.frames = some (envX cn cs L a ccd cl :: outer))
    (B : Below A₀ base outer h₀) (F : Fr h₀ L s.heap m) (K : (hd47.heap_39 w.params).In h₀) (T : Tp mg mb mean h₀) (hk : cs.kind = .function) (hX : ∀ x ∈ X, h₀.get? x = none ∧ x ≠ L)
    (ret : ∀ r h' tk', Fr h₀ L h' m → Kept X s.heap h' → Post r h' → Q r { s with heap := h', toks := tk' }) :
    wpAny (model PySem.Challenge.rw_ok0047_01.row.prog w) A (call (.ref f) vs) Q E s := by
  refine weaken (C A.guards cn cs a ccd cl outer A₀ base h₀ L m Q E B F K T hk hX fun r h' tk' k p => ret r h' tk' ?_ k p) hh hd hA.symm rfl hu
  refine ⟨k.ns F.ns fun q => (hX _ q).2 rfl, fun b o e => k b o (F.keep b o e) fun q => ?_, F.above⟩
  rw [(hX _ q).1] at e; cases e

theorem News.inX {h₀ h : Heap} {L : Addr} {news : List (Addr × Obj)} {p : Addr} {o : Obj} (N : News h₀ L h news) (hm : (p, o) ∈ news) : ∀ x ∈ [p], h₀.get? x = none ∧ x ≠ L := fun x hx => by
  rw [List.mem_singleton.mp hx]; exact ⟨(N _ hm).2.2, (N _ hm).2.1⟩
theorem News.hole {h₀ h h' : Heap} {L : Addr} {news : List (Addr × Obj)} {p : Addr} {o o' : Obj} {g : Obj → List (Addr × Obj)} (N : News h₀ L h news) (U : UpdF p o news g) (k : Kept [p] h h') (e : h'.get? p = some o') : News h₀ L h' (g o') := by
  obtain ⟨own, rest, rfl, hg, h1, h2⟩ := U.split
  rw [hg]
  intro q hq
  have key : q ∈ own ∨ q ∈ rest → h'.get? q.1 = some q.2 ∧ q.1 ≠ L ∧ h₀.get? q.1 = none := fun hq => by
    have hne : q.1 ≠ p := hq.elim (h1 q) (h2 q)
    have z := N q (hq.elim (fun x => List.mem_append_left _ x) fun x => List.mem_append_right _ (.tail _ x))
    exact ⟨k _ _ z.1 (by simpa using hne), z.2⟩
  rcases List.mem_append.mp hq with hq | hq
  · exact key (.inl hq)
  · rcases List.mem_cons.mp hq with rfl | hq
    · exact ⟨e, (N (p, o) (List.mem_append_right _ (.head _))).2⟩
    · exact key (.inr hq)

theorem words2 : True := by
  k_with "my k_room" => (exact Nat.le_of_ble_eq_true rfl)
  exact True.intro
set_option maxHeartbeats 4000000 in
theorem dip_ct {w : World} {mg mb : Str → Option Value} {mean : ExcName → Option Value} {s : Shared} {p l : Addr} {k : Int} {tk : Tok} (hp : PotAt s.heap p l) (hl : IntsAt s.heap l) (hk : 0 < k) :
    Ct w mg mb mean 600 4000 224 [.ref p, .int k tk] s [p] (fun r h' => PotAt h' p l ∧ ∃ i t, r = .int i t ∧ 0 ≤ i ∧ i < k) := by
  have hpl := pot_ne hp hl
  obtain ⟨at', ta, x, tx, n, ho, h0, hx0, hx1⟩ := hp
  obtain ⟨vs, ns, hL, hI, hlen⟩ := hl
  unfold Ct
  k_fill
  intro gd cn cs a ccd cl outer A₀ base h₀ L m Q E B F X T hcs hX hret
  have N : News h₀ L s.heap [(p, potO l at' ta x tx n)] := fun q hq => by
    rw [List.mem_singleton.mp hq]; exact ⟨ho, (hX p (.head _)).2, (hX p (.head _)).1⟩
  refine wpAny_call ?_
  refine' code_defG B F X N T ?kA ?kF ?kK ?k6 ?k7 ?k8 ?k9 ?kB ?_ ?c2 ?c3 ?c4 ?c5
  (case kA => exact rfl); (case kF => exact rfl); (case kK => exact hcs); (case k6 => k_is); (case k7 => k_is); (case k8 => exact Nat.le_of_ble_eq_true rfl); (case k9 => exact BindsTo.of_eq rfl); (case c5 => decide); (case kB => exact locs rfl); (case c2 => exact rfl); (case c3 => exact rfl); (case c4 => exact rfl)
  intro g L' h' FG' F' N' B' X' T' kG'
  have hLg : g.IsList l vs.toArray := hL.at fun o e => kG' _ _ e (by simpa using Ne.symm hpl)
  dsimp only
  k_steps
  all_goals (
    (rename Fr g _ _ _ => Fe); (rename News g _ _ _ => Ne)
    refine hret _ _ _ (fun b o e n => Fe.keep b o (kG' b o e n)) ⟨⟨_, _, _, _, _, Ne.get (List.Mem.head _), ?_, ?_, ?_⟩, _, _, rfl, ?_, ?_⟩)
  all_goals first | omega | exact (fmod_in _ _ (by omega)).1 | exact (fmod_in _ _ (by omega)).2 | (have := (fmod_in (x * 75 + 74) 65537 (by omega)); omega)

theorem use_dip {w : World} {mg mb : Str → Option Value} {mean : ExcName → Option Value} {s : Shared} {p l : Addr} {at' : Int} {ta : Tok} {x : Int} {tx : Tok} {n : Nat} {k : Int} {tk : Tok}
    {A A₀ : Around} {cn : Str} {cs : Scope} {a : Addr} {ccd : Value} {cl : List (Str × Addr)} {outer : List Env} {base h₀ : Heap} {L : Addr} {m : Str → Option Value} {Q E : Value → Shared → Prop} {news : List (Addr × Obj)} {g : Obj → List (Addr × Obj)}
    (hh : A.handled = none) (hd : A.depth ≤ 600) (hu : A.units ≤ 4000) (hA : A.frames = some (envX cn cs L a ccd cl :: outer))
    (B : Below A₀ base outer h₀) (F : Fr h₀ L s.heap m) (K : (hd47.heap_39 w.params).In h₀) (T : Tp mg mb mean h₀) (hcs : cs.kind = .function) (N : News h₀ L s.heap news) (V : UpdF p (potO l at' ta x tx n) news g)
    (h0 : 0 ≤ at') (hx0 : 0 ≤ x) (hx1 : x < 100000) (hl : IntsAt s.heap l) (hk : 0 < k)
    (ret : ∀ i t at' ta x tx n h' tk', 0 ≤ i → i < k → 0 ≤ at' → 0 ≤ x → x < 100000 → Fr h₀ L h' m → News h₀ L h' (g (potO l at' ta x tx n)) → Q (.int i t) { s with heap := h', toks := tk' }) :
    wpAny (model PySem.Challenge.rw_ok0047_01.row.prog w) A (call (.ref 224) [.ref p, .int k tk]) Q E s := by
  have hm : (p, potO l at' ta x tx n) ∈ news := by obtain ⟨own, rest, rfl, _⟩ := V.split; exact List.mem_append_right _ (.head _)
  refine use_ct (dip_ct ⟨_, _, _, _, _, N.get hm, h0, hx0, hx1⟩ hl hk) hh hd hu hA B F K T hcs (News.inX N hm) fun r h' tk' F' k' q => ?_
  obtain ⟨⟨_, _, _, _, _, ho, b0, b1, b2⟩, i, t, rfl, c0, c1⟩ := q
  exact ret i t _ _ _ _ _ h' tk' c0 c1 b0 b1 b2 F' (News.hole N V k' ho)
end

theorem calm4 : True := by
  w_top off
  exact True.intro
section
section
variable {prog : Program} {w : World} {A₀ A : Around} {s : Shared} {base h₀ : Heap} {outer : List Env} {L : Addr} {m : Str → Option Value} {env : Env} {news : List (Addr × Obj)} {K : Frag} {p : Program} {loose : List Str} {mean : ExcName → Option Value} {mg mb : Str → Option Value}
  {R : Result → Shared → Prop} {name qual : Str} {params : Arguments} {body : List Stmt} {scope : Scope} {dV kV doc pm cdv ct oc : Value} {an od : Option Addr} {osl : Array (Option Value)} {f : Addr} {args : Args} {binds : List (Str × Value)}

theorem words3 : True := by
  k_with_none
  exact True.intro
theorem code_defCG (B : Below A₀ base outer h₀) (F : Fr h₀ L s.heap m) (X₀ : K.In h₀) (N : News h₀ L s.heap news) (T : Top p loose mean mg mb h₀) (hA : A.frames = some (env :: outer)) (hf : env.frame = some L) (hke : env.scope.kind = .function)
    (ho : K.lookup f = some ⟨oc, od, .func (fnOf name qual params body scope dV kV doc pm an cdv ct), osl⟩) (hcd : codeIn K cdv qual = true) (hroom : A.depth < recursionLimit)
    (hbind : BindsTo s (fnOf name qual params body scope dV kV doc pm an cdv ct) args binds) (hkind : (binds.all fun y => scope.names.lookup y.1 == some .local || scope.names.lookup y.1 == some .cell) = true)
    (hnd : ((cellsFrom 0 scope.names []).map (·.1)).Nodup)
    (h : ∀ g L' h₁ tk cells, Fr h₀ L g m → Fr g L' h₁ (bindL (envOfC qual scope L' f cdv).kindOf binds fun _ => none) → News g L' h₁ (cells ++ news) →
      CellsAre (bindC (envOfC qual scope L' f cdv).kindOf binds fun _ => none) (cellsFrom (L' + 1) scope.names []) cells → Below A base (env :: outer) g → K.In g → Top p loose mean mg mb g → (∀ p ∈ news, p.1 < L') → GSub s.heap g (news.map (·.1)) →
      wpAny (model prog w) (A.deeper (envOfC qual scope L' f cdv)) (execs body (envOfC qual scope L' f cdv))
        (fun fl s' => LeaveK h₀ L m g R (match fl with | .ret v => v | _ => .none) s')
        (fun e s' => wpAny (model prog w) (A.deeper (envOfC qual scope L' f cdv)) (leaving (envOfC qual scope L' f cdv) e) (fun _ s'' => R (.error e) s'') (fun e' s'' => R (.error e') s'') s')
        { s with heap := h₁, toks := tk })
    (hco : scope.isCoroutine = false) (hgen : scope.isGenerator = false) (hk : scope.kind = .function) : codeAny (model prog w) A (.call (.ref f) args) R s := by
  obtain ⟨FG, BG, st, lv⟩ := groundX (R := R) B F N hA hf hke
  have X := X₀.keeps F.keep
  refine codeAny_call_function (fd := fnX name qual params body scope [] dV kV doc pm an cdv ct) hroom (X _ _ ho) rfl hco hgen rfl (codeRec_of X hcd) (hbind _ _ _ _ ?_)
  refine wpAny_newFunctionEnv_cells hk (kindsX hkind _) fun env' he s' x => ?_
  subst he
  refine ⟨(T.nolimit.keeps F.keep).keeps x.toInCall.keep, codeAny_func ?_⟩
  obtain ⟨h₁, tk, rfl, _⟩ := x.done
  have hk₁ := x.toInCall.keep
  obtain ⟨cells, NC, Y⟩ := Cl.news (h₀ := s.heap) (Nat.le_refl _) fun n c hm => ⟨x.cell n c (lookup_of_mem_nodup (cellsFrom_names scope.names 0 (s.heap.objs.size + 1) [] [] rfl ▸ hnd) hm), x.above n c hm⟩
  refine wpAny_mono (h _ s.heap.objs.size h₁ tk cells FG ⟨x.toInCall.ns, fun b o e => hk₁ b o (of_hideAll _ e), Nat.le_of_eq (hideAll_size _ _)⟩ (fun p hp => ?_) Y BG (X₀.keeps st) (T.keeps st) (fun p hp => Heap.lt_size (N p hp).1) (fun b o e n => hideAll_get _ e n)) (fun fl s' hl => lv _ _ hl) fun _ _ y => y
  rcases List.mem_append.mp hp with hp | hp
  · refine ⟨(NC p hp).1, (NC p hp).2.1, ?_⟩
    cases q : (hideAll s.heap (news.map (·.1))).get? p.1 with
    | none => rfl
    | some o => have := of_hideAll _ q; rw [(NC p hp).2.2] at this; cases this
  · exact ⟨hk₁ _ _ (N p hp).1, Nat.ne_of_lt (Heap.lt_size (N p hp).1), hideAll_none _ (List.mem_map_of_mem hp)⟩
end

/-- values that make a tree of depth k at most, its ints in order; its lists lie where N says -/
def TreeN (N : Addr → Prop) (h : Heap) : Nat → Value → List Int → Prop
  | 0, v, fl => ∃ i t, v = .int i t ∧ fl = [i]
  | k + 1, v, fl => (∃ i t, v = .int i t ∧ fl = [i]) ∨ ∃ a ys fls, v = .ref a ∧ N a ∧ h.PlainList a (List.toArray ys) ∧ ys.length ≤ 3 ∧ fl = fls.flatten ∧ Paired (TreeN N h k) ys fls
theorem paired_mono {α β : Type} {F G : α → β → Prop} (k : ∀ a b, F a b → G a b) : ∀ {l : List α} {r : List β}, Paired F l r → Paired G l r
  | _, _, .nil => .nil
  | _, _, .cons h t => .cons (k _ _ h) (paired_mono k t)
theorem TreeN.mono {N N' : Addr → Prop} {h h' : Heap} (hN : ∀ a o, N a → h.get? a = some o → N' a ∧ h'.get? a = some o) : ∀ {k : Nat} {v : Value} {fl : List Int}, TreeN N h k v fl → TreeN N' h' k v fl
  | 0, _, _, x => x
  | k + 1, v, fl, x => by
    rcases x with x | ⟨a, ys, fls, rfl, n, ⟨e, o⟩, l, q, r⟩
    · exact .inl x
    · exact .inr ⟨a, ys, fls, rfl, (hN _ _ n o).1, ⟨e, (hN _ _ n o).2⟩, l, q, paired_mono (fun _ _ => TreeN.mono hN) r⟩
theorem TreeN.int {N : Addr → Prop} {h : Heap} {k : Nat} {i : Int} {t : Tok} : TreeN N h k (.int i t) [i] := by
  cases k with
  | zero => exact ⟨i, t, rfl, rfl⟩
  | succ k => exact .inl ⟨i, t, rfl, rfl⟩
end

theorem calm5 : True := by
  w_top off
  exact True.intro
section
theorem none_of_size {h : Heap} {a : Addr} (e : h.objs.size ≤ a) : h.get? a = none := by
  cases q : h.get? a with
  | none => rfl
  | some o => exact absurd (Heap.lt_size q) (Nat.not_lt.mpr e)
section
variable {prog : Program} {w : World} {A : Around} {E : Value → Shared → Prop} {env : Env} {s : Shared}

/-- new since s, none of the block's own -/
def NewIn (s : Shared) (C D : Addr) (a : Addr) : Prop := s.heap.get? a = none ∧ a ≠ s.heap.objs.size ∧ a ≠ C ∧ a ≠ D

theorem askG {scope : Scope} {cl : List (Str × Addr)} {x : Str} {ifs : List Expr} {elt : Expr} {X : List Addr} {G : Addr → Addr → Heap → Nat → Prop} {io : Obj} {fp : List Addr} {n : Nat} {P : Nat → Value → Prop} {St : Nat → Heap → Prop}
    (J : (Addr → Prop) → Nat → List Value → Heap → Prop) (Old : Addr → Prop)
    (hio : io.isFreed = false) (W : Walks prog w A s.heap.objs.size fp [s.heap.objs.size] n P St) (hsz : n ≤ sizeLine) (hlive : ∀ i h, St i h → ∃ o, h.get? s.heap.objs.size = some o)
    (hst : St 0 (s.heap.push io)) (hfp : ∀ b ∈ fp, b = s.heap.objs.size ∨ ((∃ o, s.heap.get? b = some o) ∧ b ∉ X)) (hX : ∀ b ∈ X, ∃ o, s.heap.get? b = some o) (hOld : ∀ a, Old a → ∃ o, s.heap.get? a = some o)
    (hJ0 : ∀ N h, (∀ b o, s.heap.get? b = some o → h.get? b = some o) → J N 0 [] h)
    (hJk : ∀ N N' i ys h h', J N i ys h → (∀ a, N a → N' a) → (∀ a o, N a ∨ Old a → h.get? a = some o → h'.get? a = some o) → J N' i ys h')
    (turn : ∀ C N i v ys s₃ m₃, i < n → P i v → J N i ys s₃.heap → s₃.heap.Ns C m₃ → m₃ x = some v → s.heap.get? C = none → Kept X s.heap s₃.heap → (∀ a, s₃.heap.get? a = none → a ∉ X → N a) → (∀ a, N a → a ∉ X) → TurnJ prog w A ifs elt (compEnvC scope cl C env) X (J N) i ys s₃)
    (fin : ∀ D C h' tk ys, s.heap.get? D = none → s.heap.get? C = none → D ≠ C → h'.PlainList D (List.toArray ys) → ys.length ≤ n → J (NewIn s C D) n ys h' → Kept X s.heap h' → G D C h' tk) :
    ∃ c : CompAsk prog w A env scope cl x ifs elt X G s.heap.objs.size { s with heap := s.heap.push io }, c.wr = [s.heap.objs.size] := by
  have up : ∀ b o, s.heap.get? b = some o → (s.heap.push io).get? b = some o := fun b o e => Heap.get?_push_of_some _ e
  have ltX : ∀ b ∈ X, b < s.heap.objs.size := fun b hb => let ⟨_, e⟩ := hX b hb; Heap.lt_size e
  have low : ∀ a, (s.heap.push io).get? a = none → s.heap.get? a = none ∧ a ≠ s.heap.objs.size := fun a ha => by
    refine ⟨?_, ?_⟩
    · cases e : s.heap.get? a with
      | none => rfl
      | some o => rw [up a o e] at ha; cases ha
    · rintro rfl; rw [Heap.get?_push_size _ hio] at ha; cases ha
  refine ⟨{ fp := fp, wr := [s.heap.objs.size], n := n, P := P, St := St, J := fun C D => J (NewIn s C D), W := W, hsz := hsz, hlive := ?_, hst := hst, hfp := ?_, hX := ?_, hJ0 := ?_, hJk := ?_, turn := ?_, done := ?_ }, rfl⟩
  · intro i h st b hb
    rw [List.mem_singleton.mp hb]; exact hlive i h st
  · intro b hb
    show b < (s.heap.push io).objs.size ∧ _
    rw [Heap.size_push]
    rcases hfp b hb with rfl | ⟨⟨o, e⟩, h⟩
    · exact ⟨Nat.lt_succ_self _, fun q => Nat.lt_irrefl _ (ltX _ q)⟩
    · exact ⟨Nat.lt_succ_of_lt (Heap.lt_size e), h⟩
  · intro b hb
    show b < (s.heap.push io).objs.size
    rw [Heap.size_push]
    exact Nat.lt_succ_of_lt (ltX _ hb)
  · exact fun C D h k => hJ0 _ _ fun b o e => k b o (up b o e)
  · intro C D i ys h h' hC hD j k
    refine hJk _ _ _ _ _ _ j (fun _ a => a) fun a o na e => ?_
    rcases na with na | na
    · exact k a o na.2.2.1 (by simpa using na.2.1) na.2.2.2 e
    · obtain ⟨o', e'⟩ := hOld a na
      refine k a o ?_ (by simpa using fun q => Nat.lt_irrefl _ (q ▸ Heap.lt_size e')) ?_ e
      · rintro rfl; rw [(low _ hC).1] at e'; cases e'
      · rintro rfl; rw [(low _ hD).1] at e'; cases e'
  · intro C D i v ys s₃ m₃ hC hD hCD hi hP j hn hm hDa hw k hg
    have hC' := low _ hC
    refine turn C _ i v ys s₃ m₃ hi hP j hn hm hC'.1 (fun b o e hb => k b o (by simpa using fun q => Nat.lt_irrefl _ (q ▸ Heap.lt_size e)) hb (up b o e)) (fun a ha haX => ?_) fun a na q => by obtain ⟨o, e⟩ := hX a q; rw [na.1] at e; cases e
    refine ⟨?_, ?_, ?_, ?_⟩
    · cases e : s.heap.get? a with
      | none => rfl
      | some o => rw [k a o (by simpa using fun q => Nat.lt_irrefl _ (q ▸ Heap.lt_size e)) haX (up a o e)] at ha; cases ha
    · rintro rfl; obtain ⟨o, e⟩ := hw _ (.head _); rw [e] at ha; cases ha
    · rintro rfl; obtain ⟨o, e⟩ := ns_alive hn; rw [e] at ha; cases ha
    · rintro rfl; obtain ⟨o, e⟩ := hDa; rw [e] at ha; cases ha
  · intro D C h' tk ys hD hC hDC hpl hlen j k
    exact fin D C h' tk ys (low _ hD).1 (low _ hC).1 hDC hpl hlen j fun b o e hb => k b o (by simpa using fun q => Nat.lt_irrefl _ (q ▸ Heap.lt_size e)) hb (up b o e)

theorem rangeE {scope : Scope} {cl : List (Str × Addr)} {x : Str} {ifs : List Expr} {elt : Expr} {Q : Value → Shared → Prop} {r : Addr} {i : Int} {t u v : Tok} (X : List Addr)
    (J : (Addr → Prop) → Nat → List Value → Heap → Prop) (Old : Addr → Prop) (hh : A.handled = none) (hr : IsRange s.heap r 0 i 1 t u v) (h0 : 0 ≤ i) (h1 : i ≤ 1000) (hX : ∀ b ∈ X, ∃ o, s.heap.get? b = some o) (hOld : ∀ a, Old a → ∃ o, s.heap.get? a = some o)
    (hJ0 : ∀ N h, (∀ b o, s.heap.get? b = some o → h.get? b = some o) → J N 0 [] h)
    (hJk : ∀ N N' i ys h h', J N i ys h → (∀ a, N a → N' a) → (∀ a o, N a ∨ Old a → h.get? a = some o → h'.get? a = some o) → J N' i ys h')
    (turn : ∀ C N j tj ys s₃ m₃, j < i.toNat → J N j ys s₃.heap → s₃.heap.Ns C m₃ → m₃ x = some (.int j tj) → s.heap.get? C = none → Kept X s.heap s₃.heap → (∀ a, s₃.heap.get? a = none → a ∉ X → N a) → (∀ a, N a → a ∉ X) → TurnJ prog w A ifs elt (compEnvC scope cl C env) X (J N) j ys s₃)
    (fin : ∀ D h' tk ys, s.heap.get? D = none → h'.PlainList D (List.toArray ys) → ys.length ≤ i.toNat → J (fun a => s.heap.get? a = none ∧ a ≠ D) i.toNat ys h' → Kept X s.heap h' → Q (.ref D) { s with heap := h', toks := tk }) :
    Stop (wpAny (model prog w) A (pyIter (.ref r)) (fun it s₂ => ∃ I, it = .ref I ∧ Nonempty (CompAsk prog w A env scope cl x ifs elt X (EndE Q s₂) I s₂)) E s) := by
  have hn : Builtin.Range.rangeSize 0 i 1 = i := by unfold Builtin.Range.rangeSize; simp; omega
  have hsm : Builtin.Range.small 0 i 1 = true := by
    unfold Builtin.Range.small
    rw [hn]
    simp only [Builtin.Range.rangeFitsLong, Bool.and_eq_true, Bool.or_eq_true, decide_eq_true_eq, beq_iff_eq, show ((1 : Int) > 0) by decide, if_true]
    omega
  refine wpAny_pyIter_range hr hsm ⟨_, rfl, ?_⟩
  refine (fun ⟨c, _⟩ => ⟨c⟩) (askG J Old rfl (Walks.range hh _ 0 1 i.toNat) (by unfold sizeLine; omega) (fun _ _ e => ⟨_, e⟩) ?_ (by simp) hX hOld hJ0 hJk (fun C N j v ys s₃ m₃ hj hP hJ hn' hm hC k kn kx => ?_) (fun D C h' tk ys hD hC hDC hpl hlen hJ k => ?_))
  · show IsRangeIter _ _ _ _ _
    rw [hn]
    have := Heap.get?_push_size s.heap (o := { cls := .type "range_iterator", data := .fields #[rawInt 0, rawInt i, rawInt 1] }) rfl
    simpa [IsRangeIter, Int.toNat_of_nonneg h0] using this
  · obtain ⟨tj, rfl⟩ := hP
    exact turn C N j tj ys s₃ m₃ hj hJ hn' (by simpa using hm) hC k kn kx
  · intro h'' kk
    refine fin D h'' tk ys hD (hpl.at fun o e => kk _ _ hDC e) hlen (hJk _ _ _ _ _ _ hJ (fun a na => ⟨na.1, na.2.2.2⟩) fun a o na e => kk a o ?_ e) fun b o e hb => kk b o (fun q => by rw [q, hC] at e; cases e) (k b o e hb)
    rcases na with na | na
    · exact na.2.2.1
    · obtain ⟨o', e'⟩ := hOld a na; rintro rfl; rw [hC] at e'; cases e'

theorem rangeA {scope : Scope} {cl : List (Str × Addr)} {x y : Str} {ifs : List Expr} {elt : Expr} {Q : Flow → Shared → Prop} {r : Addr} {i : Int} {t u v : Tok} {m : Str → Option Value} (X : List Addr)
    (J : (Addr → Prop) → Nat → List Value → Heap → Prop) (Old : Addr → Prop) (hh : A.handled = none) (hr : IsRange s.heap r 0 i 1 t u v) (h0 : 0 ≤ i) (h1 : i ≤ 1000) (hX : ∀ b ∈ X, ∃ o, s.heap.get? b = some o) (hOld : ∀ a, Old a → ∃ o, s.heap.get? a = some o)
    (hL : s.heap.Ns env.locals m) (hLO : ¬ Old env.locals)
    (hJ0 : ∀ N h, (∀ b o, s.heap.get? b = some o → h.get? b = some o) → J N 0 [] h)
    (hJk : ∀ N N' i ys h h', J N i ys h → (∀ a, N a → N' a) → (∀ a o, N a ∨ Old a → h.get? a = some o → h'.get? a = some o) → J N' i ys h')
    (turn : ∀ C N j tj ys s₃ m₃, j < i.toNat → J N j ys s₃.heap → s₃.heap.Ns C m₃ → m₃ x = some (.int j tj) → s.heap.get? C = none → Kept X s.heap s₃.heap → (∀ a, s₃.heap.get? a = none → a ∉ X → N a) → (∀ a, N a → a ∉ X) → TurnJ prog w A ifs elt (compEnvC scope cl C env) X (J N) j ys s₃)
    (fin : ∀ D h' tk ys, s.heap.get? D = none → h'.PlainList D (List.toArray ys) → ys.length ≤ i.toNat → J (fun a => s.heap.get? a = none ∧ a ≠ D) i.toNat ys h' → h'.Ns env.locals (fun z => if z = y then some (.ref D) else m z) → Kept (env.locals :: X) s.heap h' → Q .next { s with heap := h', toks := tk }) :
    Stop (wpAny (model prog w) A (pyIter (.ref r)) (fun it s₂ => ∃ I m, it = .ref I ∧ s₂.heap.Ns env.locals m ∧ ∃ c : CompAsk prog w A env scope cl x ifs elt X (EndA Q env.locals m y s₂) I s₂, env.locals ∉ c.wr) E s) := by
  have hn : Builtin.Range.rangeSize 0 i 1 = i := by unfold Builtin.Range.rangeSize; simp; omega
  have hsm : Builtin.Range.small 0 i 1 = true := by
    unfold Builtin.Range.small
    rw [hn]
    simp only [Builtin.Range.rangeFitsLong, Bool.and_eq_true, Bool.or_eq_true, decide_eq_true_eq, beq_iff_eq, show ((1 : Int) > 0) by decide, if_true]
    omega
  obtain ⟨oL, eL⟩ := ns_alive hL
  refine wpAny_pyIter_range hr hsm ⟨_, m, rfl, hL.keeps fun b o e => Heap.get?_push_of_some _ e, ?_⟩
  refine (fun ⟨c, e⟩ => ⟨c, by rw [e]; simpa using Nat.ne_of_lt (Heap.lt_size eL)⟩) (askG J Old rfl (Walks.range hh _ 0 1 i.toNat) (by unfold sizeLine; omega) (fun _ _ e => ⟨_, e⟩) ?_ (by simp) hX hOld hJ0 hJk (fun C N j v ys s₃ m₃ hj hP hJ hn' hm hC k kn kx => ?_) (fun D C h' tk ys hD hC hDC hpl hlen hJ k => ?_))
  · show IsRangeIter _ _ _ _ _
    rw [hn]
    have := Heap.get?_push_size s.heap (o := { cls := .type "range_iterator", data := .fields #[rawInt 0, rawInt i, rawInt 1] }) rfl
    simpa [IsRangeIter, Int.toNat_of_nonneg h0] using this
  · obtain ⟨tj, rfl⟩ := hP
    exact turn C N j tj ys s₃ m₃ hj hJ hn' (by simpa using hm) hC k kn kx
  · intro h'' nn kk
    have hDL : D ≠ env.locals := by rintro rfl; rw [hD] at eL; cases eL
    refine fin D h'' _ ys hD (hpl.at fun o e => kk _ _ hDC hDL e) hlen (hJk _ _ _ _ _ _ hJ (fun a na => ⟨na.1, na.2.2.2⟩) fun a o na e => kk a o ?_ ?_ e) nn fun b o e hb => kk b o (fun q => by rw [q, hC] at e; cases e) (fun q => hb (q ▸ .head _)) (k b o e fun q => hb (.tail _ q))
    · rcases na with na | na
      · exact na.2.2.1
      · obtain ⟨o', e'⟩ := hOld a na; rintro rfl; rw [hC] at e'; cases e'
    · rcases na with na | na
      · rintro rfl; rw [na.1] at eL; cases eL
      · rintro rfl; exact hLO na

theorem listE {scope : Scope} {cl : List (Str × Addr)} {x : Str} {ifs : List Expr} {elt : Expr} {Q : Value → Shared → Prop} {r : Addr} {its : List Value} (X : List Addr)
    (J : (Addr → Prop) → Nat → List Value → Heap → Prop) (Old : Addr → Prop) (hh : A.handled = none) (hr : s.heap.IsList r (List.toArray its)) (hrX : r ∉ X) (h1 : its.length ≤ sizeLine) (hX : ∀ b ∈ X, ∃ o, s.heap.get? b = some o) (hOld : ∀ a, Old a → ∃ o, s.heap.get? a = some o)
    (hJ0 : ∀ N h, (∀ b o, s.heap.get? b = some o → h.get? b = some o) → J N 0 [] h)
    (hJk : ∀ N N' i ys h h', J N i ys h → (∀ a, N a → N' a) → (∀ a o, N a ∨ Old a → h.get? a = some o → h'.get? a = some o) → J N' i ys h')
    (turn : ∀ C N j v ys s₃ m₃, its[j]? = some v → J N j ys s₃.heap → s₃.heap.Ns C m₃ → m₃ x = some v → s.heap.get? C = none → Kept X s.heap s₃.heap → (∀ a, s₃.heap.get? a = none → a ∉ X → N a) → (∀ a, N a → a ∉ X) → TurnJ prog w A ifs elt (compEnvC scope cl C env) X (J N) j ys s₃)
    (fin : ∀ D h' tk ys, s.heap.get? D = none → h'.PlainList D (List.toArray ys) → ys.length ≤ its.length → J (fun a => s.heap.get? a = none ∧ a ≠ D) its.length ys h' → Kept X s.heap h' → Q (.ref D) { s with heap := h', toks := tk }) :
    Stop (wpAny (model prog w) A (pyIter (.ref r)) (fun it s₂ => ∃ I, it = .ref I ∧ Nonempty (CompAsk prog w A env scope cl x ifs elt X (EndE Q s₂) I s₂)) E s) := by
  obtain ⟨ol, el, _⟩ := id hr
  have hne : r ≠ s.heap.objs.size := Nat.ne_of_lt (Heap.lt_size el)
  refine wpAny_pyIter_list hr ⟨_, rfl, ?_⟩
  refine (fun ⟨c, _⟩ => ⟨c⟩) (askG J Old rfl (Walks.list hh s.heap.objs.size r hne (List.toArray its)) (by simpa using h1) (fun _ _ e => let ⟨o, x, _⟩ := e.1; ⟨o, x⟩) ?_ ?_ hX hOld hJ0 hJk (fun C N j v ys s₃ m₃ hj hP hJ hn' hm hC k kn kx => ?_) (fun D C h' tk ys hD hC hDC hpl hlen hJ k => ?_))
  · exact ⟨⟨_, Heap.get?_push_size _ rfl, rfl, rfl⟩, hr.at fun o e => Heap.get?_push_of_some _ e⟩
  · intro b hb
    rcases List.mem_cons.mp hb with rfl | hb
    · exact .inl rfl
    · rw [List.mem_singleton.mp hb]; exact .inr ⟨⟨_, el⟩, hrX⟩
  · exact turn C N j v ys s₃ m₃ (by simpa using hP) hJ hn' hm hC k kn kx
  · intro h'' kk
    refine fin D h'' tk ys hD (hpl.at fun o e => kk _ _ hDC e) (by simpa using hlen) (hJk (NewIn s C D) (fun a => s.heap.get? a = none ∧ a ≠ D) _ _ _ _ (by simpa using hJ) (fun a na => ⟨na.1, na.2.2.2⟩) fun a o na e => kk a o ?_ e) fun b o e hb => kk b o (fun q => by rw [q, hC] at e; cases e) (k b o e hb)
    rcases na with na | na
    · exact na.2.2.1
    · obtain ⟨o', e'⟩ := hOld a na; rintro rfl; rw [hC] at e'; cases e'

theorem listA {scope : Scope} {cl : List (Str × Addr)} {x y : Str} {ifs : List Expr} {elt : Expr} {Q : Flow → Shared → Prop} {r : Addr} {its : List Value} {m : Str → Option Value} (X : List Addr)
    (J : (Addr → Prop) → Nat → List Value → Heap → Prop) (Old : Addr → Prop) (hh : A.handled = none) (hr : s.heap.IsList r (List.toArray its)) (hrX : r ∉ X) (h1 : its.length ≤ sizeLine) (hX : ∀ b ∈ X, ∃ o, s.heap.get? b = some o) (hOld : ∀ a, Old a → ∃ o, s.heap.get? a = some o)
    (hL : s.heap.Ns env.locals m) (hLO : ¬ Old env.locals)
    (hJ0 : ∀ N h, (∀ b o, s.heap.get? b = some o → h.get? b = some o) → J N 0 [] h)
    (hJk : ∀ N N' i ys h h', J N i ys h → (∀ a, N a → N' a) → (∀ a o, N a ∨ Old a → h.get? a = some o → h'.get? a = some o) → J N' i ys h')
    (turn : ∀ C N j v ys s₃ m₃, its[j]? = some v → J N j ys s₃.heap → s₃.heap.Ns C m₃ → m₃ x = some v → s.heap.get? C = none → Kept X s.heap s₃.heap → (∀ a, s₃.heap.get? a = none → a ∉ X → N a) → (∀ a, N a → a ∉ X) → TurnJ prog w A ifs elt (compEnvC scope cl C env) X (J N) j ys s₃)
    (fin : ∀ D h' tk ys, s.heap.get? D = none → h'.PlainList D (List.toArray ys) → ys.length ≤ its.length → J (fun a => s.heap.get? a = none ∧ a ≠ D) its.length ys h' → h'.Ns env.locals (fun z => if z = y then some (.ref D) else m z) → Kept (env.locals :: X) s.heap h' → Q .next { s with heap := h', toks := tk }) :
    Stop (wpAny (model prog w) A (pyIter (.ref r)) (fun it s₂ => ∃ I m, it = .ref I ∧ s₂.heap.Ns env.locals m ∧ ∃ c : CompAsk prog w A env scope cl x ifs elt X (EndA Q env.locals m y s₂) I s₂, env.locals ∉ c.wr) E s) := by
  obtain ⟨ol, el, _⟩ := id hr
  have hne : r ≠ s.heap.objs.size := Nat.ne_of_lt (Heap.lt_size el)
  obtain ⟨oL, eL⟩ := ns_alive hL
  refine wpAny_pyIter_list hr ⟨_, m, rfl, hL.keeps fun b o e => Heap.get?_push_of_some _ e, ?_⟩
  refine (fun ⟨c, e⟩ => ⟨c, by rw [e]; simpa using Nat.ne_of_lt (Heap.lt_size eL)⟩) (askG J Old rfl (Walks.list hh s.heap.objs.size r hne (List.toArray its)) (by simpa using h1) (fun _ _ e => let ⟨o, x, _⟩ := e.1; ⟨o, x⟩) ?_ ?_ hX hOld hJ0 hJk (fun C N j v ys s₃ m₃ hj hP hJ hn' hm hC k kn kx => ?_) (fun D C h' tk ys hD hC hDC hpl hlen hJ k => ?_))
  · exact ⟨⟨_, Heap.get?_push_size _ rfl, rfl, rfl⟩, hr.at fun o e => Heap.get?_push_of_some _ e⟩
  · intro b hb
    rcases List.mem_cons.mp hb with rfl | hb
    · exact .inl rfl
    · rw [List.mem_singleton.mp hb]; exact .inr ⟨⟨_, el⟩, hrX⟩
  · exact turn C N j v ys s₃ m₃ (by simpa using hP) hJ hn' hm hC k kn kx
  · intro h'' nn kk
    have hDL : D ≠ env.locals := by rintro rfl; rw [hD] at eL; cases eL
    refine fin D h'' _ ys hD (hpl.at fun o e => kk _ _ hDC hDL e) (by simpa using hlen) (hJk (NewIn s C D) (fun a => s.heap.get? a = none ∧ a ≠ D) _ _ _ _ (by simpa using hJ) (fun a na => ⟨na.1, na.2.2.2⟩) fun a o na e => kk a o ?_ ?_ e) nn fun b o e hb => kk b o (fun q => by rw [q, hC] at e; cases e) (fun q => hb (q ▸ .head _)) (k b o e fun q => hb (.tail _ q))
    · rcases na with na | na
      · exact na.2.2.1
      · obtain ⟨o', e'⟩ := hOld a na; rintro rfl; rw [hC] at e'; cases e'
    · rcases na with na | na
      · rintro rfl; rw [na.1] at eL; cases eL
      · rintro rfl; exact hLO na
end
end

theorem calm6 : True := by
  w_top off
  exact True.intro
section
section
variable {prog : Program} {w : World} {A : Around} {E : Value → Shared → Prop} {env : Env} {s : Shared}

def TurnF (L : Addr) (fp : List Addr) (J : (Str → Option Value) → Heap → Prop) (Q : Flow → Shared → Prop) (s₃ : Shared) (f : Flow) (s₄ : Shared) : Prop :=
  match f with
  | .brk => Q .next s₄
  | .ret v => Q (.ret v) s₄
  | _ => ∃ h₄ tk₄ m₄, s₄ = { s₃ with heap := h₄, toks := tk₄ } ∧ h₄.Ns L m₄ ∧ (∀ b ∈ fp, ∀ o, s₃.heap.get? b = some o → h₄.get? b = some o) ∧ J m₄ h₄

theorem forLoopJ {R : Result → Shared → Prop} {x : Str} {px : Pos} {body : List Stmt} {I : Addr} {fp wr : List Addr} {n : Nat} {P : Nat → Value → Prop} {St : Nat → Heap → Prop} {m : Str → Option Value}
    (W : Walks prog w A I fp wr n P St) (J : Nat → (Str → Option Value) → Heap → Prop) (hlive : ∀ i h, St i h → ∀ b ∈ wr, ∃ o, h.get? b = some o)
    (hx : env.kindOf x = some .local) (hp : (env.scope.kind == .class || (env.scope.kind == .module && env.locals != env.globals)) = false)
    (hLf : env.locals ∉ fp) (hst : St 0 s.heap) (hn : s.heap.Ns env.locals m) (hJ0 : J 0 m s.heap)
    (hJk : ∀ i m h h', J i m h → (∀ b o, b ≠ env.locals → b ∉ wr → h.get? b = some o → h'.get? b = some o) → J i m h')
    (turn : ∀ i v m₁ s₃ E', i < n → P i v → J i m₁ s₃.heap → s₃.heap.Ns env.locals (fun y => if y = x then some v else m₁ y) → (∀ b ∈ wr, ∃ o, s₃.heap.get? b = some o) → (∃ h tk, s₃ = { s with heap := h, toks := tk }) →
      wpAny (model prog w) A (execs body env) (TurnF env.locals fp (J (i + 1)) (fun f s' => R (.ok f) s') s₃) E' s₃)
    (done : ∀ h' tk m', h'.Ns env.locals m' → J n m' h' → R (.ok .next) { s with heap := h', toks := tk }) :
    codeAny (model prog w) A (.forLoop (.Name x px) (.ref I) body [] env) R s := by
  have hLw : env.locals ∉ wr := fun q => hLf (W.sub _ q)
  refine codeAny_forLoop (fun k s' => ∃ h' tk m' i, s' = { s with heap := h', toks := tk } ∧ St i h' ∧ h'.Ns env.locals m' ∧ J i m' h' ∧ i ≤ n ∧ k = n + 1 - i) ?_ (n + 1) ⟨s.heap, s.toks, m, 0, rfl, hst, hn, hJ0, Nat.zero_le _, rfl⟩
  rintro k s' ⟨H, tk, m', i, rfl, hst', hn', hJ, hi, rfl⟩
  by_cases hlt : i < n
  · refine W.item i _ _ _ hlt hst' fun v h₁ tk₁ hPv hst₁ hk₁ => ?_
    refine wpAny_assign_Name (wpAny_storeName_local hx (hn'.at' fun o e => hk₁ _ o hLw e) (fun h₂ hn₂ hs₂ => ?_) hp)
    have hst₂ : St (i + 1) h₂ := W.frame _ _ _ hst₁ fun b hb o e => hs₂.extBut b o (fun h => hLf (h ▸ hb)) e
    have hJ₂ : J i m' h₂ := hJk _ _ _ _ hJ fun b o hbL hbw e => hs₂.extBut b o hbL (hk₁ b o hbw e)
    refine wpAny_mono (turn i v m' { s with heap := h₂, toks := tk₁ + 1 } _ hlt hPv hJ₂ hn₂ (hlive _ _ hst₂) ⟨_, _, rfl⟩) (fun f s₄ hF => ?_) fun _ _ e => e
    have fin : (∃ h₄ tk₄ m₄, s₄ = { s with heap := h₄, toks := tk₄ } ∧ h₄.Ns env.locals m₄ ∧ (∀ b ∈ fp, ∀ o, h₂.get? b = some o → h₄.get? b = some o) ∧ J (i + 1) m₄ h₄) → ∃ m, m < n + 1 - i ∧ ∃ h' tk m' i, s₄ = { s with heap := h', toks := tk } ∧ St i h' ∧ h'.Ns env.locals m' ∧ J i m' h' ∧ i ≤ n ∧ m = n + 1 - i := by
      rintro ⟨h₄, tk₄, m₄, rfl, hn₄, hk₄, hJ₄⟩
      exact ⟨n + 1 - (i + 1), by omega, h₄, tk₄, m₄, i + 1, rfl, W.frame _ _ _ hst₂ fun b hb o e => hk₄ b hb o e, hn₄, hJ₄, by omega, rfl⟩
    cases f with
    | next => exact fin hF
    | cont => exact fin hF
    | brk => exact hF
    | ret v => exact hF
  · have hin : i = n := by omega
    subst hin
    refine W.done _ _ _ hst' fun h₁ tk₁ hk₁ => ?_
    exact wpAny_pure (done h₁ tk₁ m' (hn'.at' fun o e => hk₁ _ o hLw e) (hJk _ _ _ _ hJ fun b o _ hbw e => hk₁ b o hbw e))

structure ForAsk (prog : Program) (w : World) (A : Around) (env : Env) (x : Str) (body : List Stmt) (Q : Flow → Shared → Prop) (I : Addr) (s : Shared) where
  fp : List Addr
  wr : List Addr
  n : Nat
  P : Nat → Value → Prop
  St : Nat → Heap → Prop
  m : Str → Option Value
  J : Nat → (Str → Option Value) → Heap → Prop
  W : Walks prog w A I fp wr n P St
  hlive : ∀ i h, St i h → ∀ b ∈ wr, ∃ o, h.get? b = some o
  hLf : env.locals ∉ fp
  hst : St 0 s.heap
  hn : s.heap.Ns env.locals m
  hJ0 : J 0 m s.heap
  hJk : ∀ i m h h', J i m h → (∀ b o, b ≠ env.locals → b ∉ wr → h.get? b = some o → h'.get? b = some o) → J i m h'
  turn : ∀ i v m₁ s₃ E', i < n → P i v → J i m₁ s₃.heap → s₃.heap.Ns env.locals (fun y => if y = x then some v else m₁ y) → (∀ b ∈ wr, ∃ o, s₃.heap.get? b = some o) → (∃ h tk, s₃ = { s with heap := h, toks := tk }) →
      wpAny (model prog w) A (execs body env) (TurnF env.locals fp (J (i + 1)) Q s₃) E' s₃
  done : ∀ h' tk m', h'.Ns env.locals m' → J n m' h' → Q .next { s with heap := h', toks := tk }

theorem ForJ {x : Str} {px pos : Pos} {iter : Expr} {body : List Stmt} {Q : Flow → Shared → Prop} (hx : env.kindOf x = some .local)
    (hp : (env.scope.kind == .class || (env.scope.kind == .module && env.locals != env.globals)) = false) (hs : ∀ x, foldedSetIterable iter env x = pure x)
    (h : wpAny (model prog w) A (eval iter env) (fun xv s₁ => Stop (wpAny (model prog w) A (pyIter xv) (fun it s₂ => ∃ I, it = .ref I ∧ Nonempty (ForAsk prog w A env x body Q I s₂)) E s₁)) E s) :
    wpAny (model prog w) A (exec (.For (.Name x px) iter body [] pos) env) Q E s := by
  refine wpAny_For (wpAny_mono h (fun xv s₁ h₁ => wpAny_mono h₁ (fun it s₂ h₂ => ?_) fun _ _ e => e) fun _ _ e => e) hs
  obtain ⟨I, rfl, ⟨c⟩⟩ := h₂
  exact forLoopJ (R := fun r s' => match r with | .ok f => Q f s' | .error e => cameBackBy (model prog w) A env E e s') c.W c.J c.hlive hx hp c.hLf c.hst c.hn c.hJ0 c.hJk c.turn c.done

/-- over a list: the iterator lies new at the end of the heap -/
theorem forList {I : Addr} {x : Str} {body : List Stmt} {Q : Flow → Shared → Prop} {r : Addr} {its : List Value} {m : Str → Option Value}
    (J : Nat → (Str → Option Value) → Heap → Prop) (hId : I = s.heap.objs.size) (hh : A.handled = none) (hr : s.heap.IsList r (List.toArray its)) (hrL : r ≠ env.locals)
    (hn : s.heap.Ns env.locals m) (hJ0 : ∀ h, (∀ b o, s.heap.get? b = some o → h.get? b = some o) → J 0 m h)
    (hJk : ∀ i m h h', J i m h → (∀ b o, b ≠ env.locals → b ≠ I → h.get? b = some o → h'.get? b = some o) → J i m h')
    (turn : ∀ i v m₁ s₃ E', its[i]? = some v → J i m₁ s₃.heap → s₃.heap.Ns env.locals (fun y => if y = x then some v else m₁ y) → (∃ o, s₃.heap.get? I = some o) → (∃ h tk, s₃ = { s with heap := h, toks := tk }) →
      wpAny (model prog w) A (execs body env) (TurnF env.locals [I, r] (J (i + 1)) Q s₃) E' s₃)
    (done : ∀ h' tk m', h'.Ns env.locals m' → J its.length m' h' → Q .next { s with heap := h', toks := tk }) :
    Stop (wpAny (model prog w) A (pyIter (.ref r)) (fun it s₂ => ∃ I, it = .ref I ∧ Nonempty (ForAsk prog w A env x body Q I s₂)) E s) := by
  subst hId
  obtain ⟨ol, el, _⟩ := id hr
  obtain ⟨oL, eL⟩ := ns_alive hn
  have hne : r ≠ s.heap.objs.size := Nat.ne_of_lt (Heap.lt_size el)
  refine wpAny_pyIter_list hr ⟨_, rfl, ⟨{ fp := _, wr := _, n := _, P := _, St := _, m := m, J := J, W := Walks.list hh s.heap.objs.size r hne (List.toArray its), hlive := ?_, hLf := ?_, hst := ?_, hn := hn.keeps fun b o e => Heap.get?_push_of_some _ e, hJ0 := hJ0 _ fun b o e => Heap.get?_push_of_some _ e, hJk := ?_, turn := ?_, done := ?_ }⟩⟩
  · intro i h e b hb
    rw [List.mem_singleton.mp hb]
    obtain ⟨o, x, _⟩ := e.1; exact ⟨o, x⟩
  · intro q
    rcases List.mem_cons.mp q with q | q
    · exact Nat.lt_irrefl _ (q ▸ Heap.lt_size eL)
    · exact hrL (List.mem_singleton.mp q).symm
  · exact ⟨⟨_, Heap.get?_push_size _ rfl, rfl, rfl⟩, hr.at fun o e => Heap.get?_push_of_some _ e⟩
  · exact fun i m h h' j k => hJk i m h h' j fun b o hb hb' e => k b o hb (by simpa using hb') e
  · intro i v m₁ s₃ E' hi hP hJ hn' hw he
    obtain ⟨h, tk, rfl⟩ := he
    exact turn i v m₁ _ E' (by simpa using hP) hJ hn' (hw _ (.head _)) ⟨_, _, rfl⟩
  · intro h' tk m' hn' hJ
    exact done h' tk m' hn' (by simpa using hJ)

theorem forRangeG {I : Addr} {x : Str} {body : List Stmt} {Q : Flow → Shared → Prop} {r : Addr} {a₀ b₀ c₀ : Int} {t u v : Tok} {n : Nat} {m : Str → Option Value}
    (J : Nat → (Str → Option Value) → Heap → Prop) (hId : I = s.heap.objs.size) (hh : A.handled = none) (hr : IsRange s.heap r a₀ b₀ c₀ t u v) (hsm : Builtin.Range.small a₀ b₀ c₀ = true) (hn' : Builtin.Range.rangeSize a₀ b₀ c₀ = (n : Int))
    (hn : s.heap.Ns env.locals m) (hJ0 : ∀ h, (∀ b o, s.heap.get? b = some o → h.get? b = some o) → J 0 m h)
    (hJk : ∀ i m h h', J i m h → (∀ b o, b ≠ env.locals → b ≠ I → h.get? b = some o → h'.get? b = some o) → J i m h')
    (turn : ∀ j tj m₁ s₃ E', j < n → J j m₁ s₃.heap → s₃.heap.Ns env.locals (fun y => if y = x then some (.int (a₀ + (j : Nat) * c₀) tj) else m₁ y) → (∃ o, s₃.heap.get? I = some o) → (∃ h tk, s₃ = { s with heap := h, toks := tk }) →
      wpAny (model prog w) A (execs body env) (TurnF env.locals [I] (J (j + 1)) Q s₃) E' s₃)
    (done : ∀ h' tk m', h'.Ns env.locals m' → J n m' h' → Q .next { s with heap := h', toks := tk }) :
    Stop (wpAny (model prog w) A (pyIter (.ref r)) (fun it s₂ => ∃ I, it = .ref I ∧ Nonempty (ForAsk prog w A env x body Q I s₂)) E s) := by
  subst hId
  obtain ⟨oL, eL⟩ := ns_alive hn
  refine wpAny_pyIter_range hr hsm ⟨_, rfl, ⟨{ fp := _, wr := _, n := _, P := _, St := _, m := m, J := J, W := Walks.range hh s.heap.objs.size a₀ c₀ n, hlive := ?_, hLf := ?_, hst := ?_, hn := hn.keeps fun b o e => Heap.get?_push_of_some _ e, hJ0 := hJ0 _ fun b o e => Heap.get?_push_of_some _ e, hJk := ?_, turn := ?_, done := ?_ }⟩⟩
  · intro i h e b hb
    rw [List.mem_singleton.mp hb]
    exact ⟨_, e⟩
  · intro q
    exact Nat.lt_irrefl _ ((List.mem_singleton.mp q) ▸ Heap.lt_size eL)
  · show IsRangeIter _ _ _ _ _
    rw [hn']
    have := Heap.get?_push_size s.heap (o := { cls := .type "range_iterator", data := .fields #[rawInt a₀, rawInt n, rawInt c₀] }) rfl
    simpa [IsRangeIter] using this
  · exact fun i m h h' j k => hJk i m h h' j fun b o hb hb' e => k b o hb (by simpa using hb') e
  · intro j v m₁ s₃ E' hi hP hJ hn' hw he
    obtain ⟨h, tk, rfl⟩ := he
    obtain ⟨tj, rfl⟩ := hP
    exact turn j tj m₁ _ E' hi hJ hn' (hw _ (.head _)) ⟨_, _, rfl⟩
  · intro h' tk m' hn' hJ
    exact done h' tk m' hn' hJ
theorem up_range {i : Int} (h0 : 0 ≤ i) (h1 : i ≤ 1000) : Builtin.Range.small 0 i 1 = true ∧ Builtin.Range.rangeSize 0 i 1 = (i.toNat : Int) := by
  have hn' : Builtin.Range.rangeSize 0 i 1 = i := by unfold Builtin.Range.rangeSize; simp; omega
  refine ⟨?_, by omega⟩
  unfold Builtin.Range.small
  rw [hn']
  simp only [Builtin.Range.rangeFitsLong, Bool.and_eq_true, Bool.or_eq_true, decide_eq_true_eq, beq_iff_eq, show ((1 : Int) > 0) by decide, if_true]
  omega
theorem down_range {n : Nat} (h1 : n ≤ 1000) : Builtin.Range.small ((n : Int) - 1) (-1) (-1) = true ∧ Builtin.Range.rangeSize ((n : Int) - 1) (-1) (-1) = (n : Int) := by
  refine ⟨small_down (by omega) (by omega) (by omega) (by omega), ?_⟩
  rw [rangeSize_downNat]; omega
theorem two_range {n : Nat} (h1 : n ≤ 1000) : Builtin.Range.small 0 (2 * n) 2 = true ∧ Builtin.Range.rangeSize 0 (2 * n) 2 = (n : Int) := by
  have hn' : Builtin.Range.rangeSize 0 (2 * (n : Int)) 2 = n := by unfold Builtin.Range.rangeSize; simp; omega
  have fits : ∀ i : Int, -5000 ≤ i → i ≤ 5000 → Builtin.Range.rangeFitsLong i = true := fun i a b => by
    unfold Builtin.Range.rangeFitsLong
    rw [Bool.and_eq_true]
    exact ⟨decide_eq_true (by omega), decide_eq_true (by omega)⟩
  refine ⟨?_, hn'⟩
  unfold Builtin.Range.small
  rw [hn', if_pos (by decide), fits _ (by omega) (by omega), fits _ (by omega) (by omega), fits _ (by omega) (by omega), fits _ (by omega) (by omega), fits _ (by omega) (by omega)]
  simp
theorem forRange {I : Addr} {x : Str} {body : List Stmt} {Q : Flow → Shared → Prop} {r : Addr} {i : Int} {t u v : Tok} {m : Str → Option Value}
    (J : Nat → (Str → Option Value) → Heap → Prop) (hId : I = s.heap.objs.size) (hh : A.handled = none) (hr : IsRange s.heap r 0 i 1 t u v) (h0 : 0 ≤ i) (h1 : i ≤ 1000)
    (hn : s.heap.Ns env.locals m) (hJ0 : ∀ h, (∀ b o, s.heap.get? b = some o → h.get? b = some o) → J 0 m h)
    (hJk : ∀ i m h h', J i m h → (∀ b o, b ≠ env.locals → b ≠ I → h.get? b = some o → h'.get? b = some o) → J i m h')
    (turn : ∀ j tj m₁ s₃ E', j < i.toNat → J j m₁ s₃.heap → s₃.heap.Ns env.locals (fun y => if y = x then some (.int j tj) else m₁ y) → (∃ o, s₃.heap.get? I = some o) → (∃ h tk, s₃ = { s with heap := h, toks := tk }) →
      wpAny (model prog w) A (execs body env) (TurnF env.locals [I] (J (j + 1)) Q s₃) E' s₃)
    (done : ∀ h' tk m', h'.Ns env.locals m' → J i.toNat m' h' → Q .next { s with heap := h', toks := tk }) :
    Stop (wpAny (model prog w) A (pyIter (.ref r)) (fun it s₂ => ∃ I, it = .ref I ∧ Nonempty (ForAsk prog w A env x body Q I s₂)) E s) :=
  forRangeG J hId hh hr (up_range h0 h1).1 (up_range h0 h1).2 hn hJ0 hJk (fun j tj m₁ s₃ E' a b c d e => turn j tj m₁ s₃ E' a b (by simpa using c) d e) done
end
end

theorem calm7 : True := by
  w_top off
  exact True.intro
section
theorem Fr.kept {h₀ h h' : Heap} {L : Addr} {m : Str → Option Value} {X : List Addr} (F : Fr h₀ L h m) (k : Kept X h h') (hX : ∀ x ∈ X, h₀.get? x = none ∧ x ≠ L) : Fr h₀ L h' m :=
  ⟨k.ns F.ns fun q => (hX _ q).2 rfl, fun b o e => k b o (F.keep b o e) (fun q => by rw [(hX _ q).1] at e; cases e), F.above⟩
theorem News.one {h₀ h h' : Heap} {L a : Addr} {o : Obj} {news : List (Addr × Obj)} {X : List Addr} (N : News h₀ L h news) (k : Kept X h h') (hm : (a, o) ∈ news) (ha : a ∉ X) : News h₀ L h' [(a, o)] := fun q hq => by
  rw [List.mem_singleton.mp hq]; exact ⟨k _ _ (N _ hm).1 ha, (N _ hm).2⟩
theorem News.two {h₀ h h' : Heap} {L a b : Addr} {o o' : Obj} {news : List (Addr × Obj)} {X : List Addr} (N : News h₀ L h news) (k : Kept X h h') (hm : (a, o) ∈ news) (ha : a ∉ X) (hm' : (b, o') ∈ news) (hb : b ∉ X) : News h₀ L h' [(a, o), (b, o')] := fun q hq => by
  rcases List.mem_cons.mp hq with rfl | hq
  · exact ⟨k _ _ (N _ hm).1 ha, (N _ hm).2⟩
  · exact News.one N k hm' hb q hq
theorem PotAt.obj {h : Heap} {p l : Addr} (x : PotAt h p l) : ∃ o, h.get? p = some o := let ⟨_, _, _, _, _, e, _⟩ := x; ⟨_, e⟩
theorem PotAt.of {h h' : Heap} {p l : Addr} (x : PotAt h p l) (k : ∀ o, h.get? p = some o → h'.get? p = some o) : PotAt h' p l := let ⟨_, _, _, _, _, e, r⟩ := x; ⟨_, _, _, _, _, k _ e, r⟩

theorem fresh_of {X : List Addr} {h h' : Heap} (k : Kept X h h') (hX : ∀ p ∈ X, ∃ o, h'.get? p = some o) {a : Addr} (e : h'.get? a = none) : h.get? a = none := by
  cases q : h.get? a with
  | none => rfl
  | some o =>
    by_cases hm : a ∈ X
    · obtain ⟨o', e'⟩ := hX a hm; rw [e] at e'; cases e'
    · rw [k a o q hm] at e; cases e
theorem alive1 {p : Addr} {h : Heap} {o : Obj} (e : h.get? p = some o) : ∀ x ∈ [p], ∃ o, h.get? x = some o := fun x hx => by rw [List.mem_singleton.mp hx]; exact ⟨o, e⟩
theorem GSub.fresh {h g : Heap} {a : Addr} {X : List Addr} (k : GSub h g X) (hX : ∀ p ∈ X, ∃ o, g.get? p = some o) (e : g.get? a = none) : h.get? a = none := fresh_of (X := X) k hX e
theorem upd_same {x : Str} {v u : Option Value} {f : Str → Option Value} : (fun y => if y = x then v else if y = x then u else f y) = fun y => if y = x then v else f y := by
  funext y
  by_cases h : y = x <;> simp [h]
theorem upd_swap {x z : Str} {v u : Option Value} {f : Str → Option Value} (hne : x ≠ z) : (fun y => if y = x then v else if y = z then u else if y = x then w else f y) = fun y => if y = z then u else if y = x then v else f y := by
  funext y
  by_cases h : y = x
  · subst h; simp [hne]
  · simp [h]
theorem TreeN.len {N : Addr → Prop} {h : Heap} : ∀ {k : Nat} {v : Value} {fl : List Int}, TreeN N h k v fl → fl.length ≤ 3 ^ k
  | 0, _, _, ⟨_, _, _, e⟩ => by subst e; simp
  | k + 1, v, fl, x => by
    rcases x with ⟨i, t, rfl, rfl⟩ | ⟨a, ys, fls, rfl, _, _, l, rfl, r⟩
    · have := Nat.pow_pos (n := k + 1) (show 0 < 3 by decide); simp; omega
    · have key : ∀ {ys : List Value} {fls : List (List Int)}, Paired (TreeN N h k) ys fls → fls.flatten.length ≤ ys.length * 3 ^ k := by
        intro ys fls r
        induction r with
        | nil => simp
        | cons a _ ih => have := TreeN.len a; simp only [List.flatten_cons, List.length_append, List.length_cons, Nat.succ_mul]; omega
      have := key r
      have e : 3 ^ (k + 1) = 3 * 3 ^ k := by rw [Nat.pow_succ]; omega
      have : ys.length * 3 ^ k ≤ 3 * 3 ^ k := Nat.mul_le_mul_right _ l
      omega
theorem Paired.get {α β : Type} {F : α → β → Prop} : ∀ {l : List α} {r : List β} {i : Nat} {a : α}, Paired F l r → l[i]? = some a → ∃ b, r[i]? = some b ∧ F a b
  | _, _, _, _, .nil, h => by simp at h
  | _, _, 0, _, .cons h t, e => by simp at e; subst e; exact ⟨_, rfl, h⟩
  | _, _, i + 1, _, .cons h t, e => by simpa using Paired.get t (by simpa using e)
theorem IntsAre.app : ∀ {vs us : List Value} {ns ms : List Int}, IntsAre vs ns → IntsAre us ms → IntsAre (vs ++ us) (ns ++ ms)
  | _, _, _, _, .nil, b => b
  | _, _, _, _, .cons n t a, b => .cons n t (IntsAre.app a b)
end
section
theorem News.all {h₀ h h' : Heap} {L : Addr} {news : List (Addr × Obj)} (N : News h₀ L h news) (k : Kept [] h h') : News h₀ L h' news := fun p hp => ⟨k _ _ (N p hp).1 (by simp), (N p hp).2⟩
theorem News.also {h₀ h h' : Heap} {L a : Addr} {o : Obj} {m : Str → Option Value} {news : List (Addr × Obj)} (N : News h₀ L h' news) (F : Fr h₀ L h m) (hn : h.get? a = none) (e : h'.get? a = some o) : News h₀ L h' ((a, o) :: news) := fun p hp => by
  rcases List.mem_cons.mp hp with rfl | hp
  · refine ⟨e, ?_, ?_⟩
    · rintro rfl; obtain ⟨o, eL⟩ := ns_alive F.ns; rw [hn] at eL; cases eL
    · cases q : h₀.get? a with
      | none => rfl
      | some o => rw [F.keep _ _ q] at hn; cases hn
  · exact N p hp
theorem Fr.size {h₀ h : Heap} {L : Addr} {m : Str → Option Value} (F : Fr h₀ L h m) : h₀.get? h.objs.size = none ∧ h.objs.size ≠ L := by
  obtain ⟨o, e⟩ := ns_alive F.ns
  refine ⟨?_, fun q => Nat.lt_irrefl _ (q ▸ Heap.lt_size e)⟩
  cases q : h₀.get? h.objs.size with
  | none => rfl
  | some o => exact absurd (Heap.lt_size (F.keep _ _ q)) (Nat.lt_irrefl _)
theorem Fr.name {h₀ h : Heap} {L : Addr} {m : Str → Option Value} (F : Fr h₀ L h m) : ∃ mE I, mE = m ∧ I = h.objs.size ∧ h₀.get? I = none ∧ I ≠ L ∧ (∀ b o, h.get? b = some o → b ≠ I) ∧ Fr h₀ L h mE := ⟨_, _, rfl, rfl, (Fr.size F).1, (Fr.size F).2, fun _ _ e q => Nat.lt_irrefl _ (q ▸ Heap.lt_size e), F⟩
theorem Fr.ground {h₀ h₁ h h' : Heap} {L : Addr} {m : Str → Option Value} (F : Fr h₀ L h₁ m) {I : Addr} (hI : h₀.get? I = none) (k : ∀ b o, b ≠ L → b ≠ I → h.get? b = some o → h'.get? b = some o) {b : Addr} {o : Obj} (e : h₀.get? b = some o) (e' : h.get? b = some o) : h'.get? b = some o :=
  k b o (fun q => Nat.lt_irrefl _ (Nat.lt_of_lt_of_le (Heap.lt_size (q ▸ e)) F.above)) (fun q => by rw [q, hI] at e; cases e) e'
end
section
theorem flat_len {N : Addr → Prop} {h : Heap} {k : Nat} {ys : List Value} {fls : List (List Int)} (r : Paired (TreeN N h k) ys fls) : fls.flatten.length ≤ ys.length * 3 ^ k := by
  induction r with
  | nil => simp
  | cons a _ ih => have := TreeN.len a; simp only [List.flatten_cons, List.length_append, List.length_cons, Nat.succ_mul]; omega
theorem take_len (fls : List (List Int)) (i : Nat) : (fls.take i).flatten.length ≤ fls.flatten.length := by
  have := congrArg (fun l => (List.flatten l).length) (List.take_append_drop i fls)
  simp only [List.flatten_append, List.length_append] at this
  omega
theorem pow_le {k : Nat} (hk : k < 4) : 3 ^ k ≤ 27 := by
  have : k = 0 ∨ k = 1 ∨ k = 2 ∨ k = 3 := by omega
  rcases this with rfl | rfl | rfl | rfl <;> decide
end
section
theorem Ct.mono {w : World} {mg mb : Str → Option Value} {mean : ExcName → Option Value} {D U D' U' : Nat} {f : Addr} {vs : List Value} {s : Shared} {X : List Addr} {Post : Value → Heap → Prop} (C : Ct w mg mb mean D U f vs s X Post) (hd : D' ≤ D) (hu : U' ≤ U) : Ct w mg mb mean D' U' f vs s X Post :=
  fun gd cn cs a ccd cl outer A₀ base h₀ L m Q E B F K T hk hX ret => weaken (C gd cn cs a ccd cl outer A₀ base h₀ L m Q E B F K T hk hX ret) rfl hd rfl rfl hu
end
section
section
variable {prog : Program} {w : World} {A : Around} {E : Value → Shared → Prop} {s : Shared} {l : Addr} {vs : List Value} {Q : Value → Shared → Prop} {h₀ : Heap} {L : Addr} {m : Str → Option Value}
theorem item_ground {value slice : PySem.Expr} {k : Int} {u : Tok} {v : Value} (F : Fr h₀ L s.heap m)
    (hl : h₀.IsList l vs.toArray) (h0 : 0 ≤ k) (hhi : k < 2 ^ 63) (hx : vs[k.toNat]? = some v) (h : Q v s)
    (hs : subscripted slice false (.ref l) (.int k u) = operate [.ref l, .int k u] (getItem (.ref l) (.int k u))) :
    wpAny (model prog w) A (subscriptTail value slice (.ref l) (.int k u)) Q E s :=
  tail_any (hl.at fun o e => F.keep _ _ e).typeIs slot_list_getitem.lookup (wpAny_getItem_list (hl.at fun o e => F.keep _ _ e) h0 hhi (by simpa using hx) h) hs
theorem len_ground (F : Fr h₀ L s.heap m) (hl : h₀.IsList l vs.toArray) (hb : vs.length ≤ 1000000) (h : Q (.int vs.length (s.toks + 1)) { s with toks := s.toks + 1 + 1 }) : wpAny (model prog w) A (call (.builtin "len") [.ref l]) Q E s :=
  PyProof.Rows.len_list (hl.at fun o e => F.keep _ _ e) (by show (vs.length : Int) < 2 ^ 63; omega) h
end
end
section
theorem make_raw {prog : Program} {w : World} {A : Around} {E : Value → Shared → Prop} {K : Frag} {C : Addr} {s : Shared} {Q : Value → Shared → Prop} {rest : List Value} {fI : Addr} (X : K.In s.heap) (hm : makesIn K C = true)
    (hi : findIn K (.ref C) "__init__" = some (some (.ref fI))) (hf : isFn K (.ref fI) = true)
    (h : ∀ x dx h', Kept [] s.heap h' → h'.get? x = some (instObj C dx) → h'.get? dx = some (dictOf [] 0) → s.heap.get? x = none → s.heap.get? dx = none → dx < x →
      codeAny (model prog w) (A.under (.builtin "type.__call__" ⟨.ref C :: rest, []⟩)) (.call (.ref fI) ⟨.ref x :: rest, []⟩) (InitBack x fun r s' => match r with | .ok (.ret v) => Q v s' | .ok _ => False | .error e => E e s') { s with heap := h' }) :
    wpAny (model prog w) A (call (.ref C) rest) Q E s := by
  refine wpAny_call ?_
  obtain ⟨hh, g, d, t, os⟩ := s
  have none_at : ∀ a, hh.objs.size ≤ a → hh.get? a = none := fun a ha => none_of_size ha
  refine make_core (makes_of X hm) (looks_findIn X hi) (fun self => bind_fn X self (beq_iff_eq.mp hf)) (.inl rfl) (h _ hh.objs.size _ (fun b o e _ => Heap.get?_push_of_some _ (Heap.get?_push_of_some _ e)) ?_ (Heap.get?_push_of_some _ (Heap.get?_push_size _ rfl)) (none_at _ (Nat.le_succ _)) (none_at _ (Nat.le_refl _)) (Nat.lt_succ_self _))
  have := Heap.get?_push_size (hh.push emptyDict) (o := instObj C hh.objs.size) rfl
  rwa [Heap.size_push] at this
end
section
section
variable {M : Model} {A : Around} {E : Value → Shared → Prop} {s : Shared} {h₀ : Heap} {L a : Addr} {m : Str → Option Value} {cn : Str} {cs : Scope} {ccd : Value} {cl : List (Str × Addr)}
  {x : Str} {v : Value} {Q : Unit → Shared → Prop} {news : List (Addr × Obj)} {g : Obj → List (Addr × Obj)} {c : Addr} {o : Obj} {v₀ : Option Value}
theorem stK (F : Fr h₀ L s.heap m) (N : News h₀ L s.heap news)
    (h : ∀ h', Fr h₀ L h' (fun y => if y = x then some v else m y) → News h₀ L h' news → Kept [L] s.heap h' → Q () { s with heap := h', toks := s.toks + 1 })
    (hk : cs.kind = .function) (hx : (envX cn cs L a ccd cl).kindOf x = some .local) : wpAny M A (storeName (envX cn cs L a ccd cl) x v) Q E s :=
  wpAny_storeName_local hx F.ns (fun h' hn hs => h h' (F.set hn hs) (N.set hs) (fun b o e nb => hs.extBut b o (by simpa using nb) e)) (by show (cs.kind == .class || (cs.kind == .module && L != mainGlobals)) = false; rw [hk]; rfl)
theorem stC (F : Fr h₀ L s.heap m) (N : News h₀ L s.heap news) (hc : cl.lookup x = some c) (U : UpdF c o news g) (hd : o.data = .cell v₀)
    (h : ∀ h' o', Fr h₀ L h' m → News h₀ L h' (g o') → o'.data = .cell (some v) → Kept [c] s.heap h' → Q () { s with heap := h' })
    (hk : cs.kind = .function) (hx : (envX cn cs L a ccd cl).kindOf x = some .cell) : wpAny M A (storeName (envX cn cs L a ccd cl) x v) Q E s := by
  obtain ⟨own, rest, rfl, hg, h1, h2⟩ := U.split
  have hmem := N (c, o) (List.mem_append_right _ (.head _))
  refine wpAny_storeName_cell hk hx hc ⟨o, hmem.1, hd⟩ fun h' hv hs => ?_
  obtain ⟨o', ho', hd'⟩ := hv
  refine h h' o' ⟨F.ns.sameBut hs (Ne.symm hmem.2.1), fun b ob e => (hs.2 b (fun q => ?_)).trans (F.keep b ob e), F.above⟩ (hg o' ▸ N.setAt h1 h2 hs ho') hd' (fun b o e nb => hs.extBut b o (by simpa using nb) e)
  rw [q, hmem.2.2] at e; cases e
end
end
section
theorem gr_get {h₀ h : Heap} {L x : Addr} {m : Str → Option Value} {o : Obj} (F : Fr h₀ L h m) (e : h₀.get? x = some o) : h.get? x = some o := F.keep _ _ e
end
section
theorem News.sub1 {h₀ h : Heap} {L a : Addr} {o : Obj} {news : List (Addr × Obj)} (N : News h₀ L h news) (hm : (a, o) ∈ news) : News h₀ L h [(a, o)] := fun p hp => by rw [List.mem_singleton.mp hp]; exact N _ hm
end
section
end
section
/-- a mark: here the library's own lines for a comprehension or a loop are wanted -/
structure LibOk : Prop where
end
section
theorem News.app {h₀ h : Heap} {L : Addr} {a b : List (Addr × Obj)} (N : News h₀ L h a) (M : News h₀ L h b) : News h₀ L h (a ++ b) := fun p hp => (List.mem_append.mp hp).elim (N p) (M p)
theorem News.cons {h₀ h : Heap} {L : Addr} {q : Addr × Obj} {b : List (Addr × Obj)} (N : News h₀ L h [q]) (M : News h₀ L h b) : News h₀ L h (q :: b) := fun p hp => (List.mem_cons.mp hp).elim (fun e => N p (e ▸ List.Mem.head _)) (M p)
end
section
/-- a mark: a tuple is made by hand here -/
structure RawTup : Prop where
theorem IntsAre.snoc_inv : ∀ {pre : List Value} {v : Value} {ns : List Int}, IntsAre (pre ++ [v]) ns → ∃ ps n t, ns = ps ++ [n] ∧ v = .int n t ∧ IntsAre pre ps
  | [], _, _, .cons n t .nil => ⟨[], n, t, rfl, rfl, .nil⟩
  | _ :: pre, v, _, .cons n t r => by
    obtain ⟨ps, m, u, e, q, i⟩ := IntsAre.snoc_inv (pre := pre) (v := v) r
    exact ⟨n :: ps, m, u, by rw [e]; rfl, q, .cons n t i⟩
theorem newTuple_raw {M : Model} {A : Around} {E : Value → Shared → Prop} {s : Shared} {vs : List Value} {Q : Value → Shared → Prop} (hsz : vs.length ≤ 10)
    (h : ∀ a h', s.heap.get? a = none → Kept [] s.heap h' → h'.get? a = some { cls := .type "tuple", data := .seq vs.toArray } → Q (.ref a) { s with heap := h' }) : wpAny M A (newTuple vs) Q E s :=
  wpAny_newObj_type (h _ _ (none_of_size (Nat.le_refl _)) (fun _ _ e _ => Heap.get?_push_of_some _ e) (Heap.get?_push_size _ rfl)) (by show vs.toArray.size ≤ sizeLine; rw [List.size_toArray]; unfold sizeLine; omega)
theorem Fr.assign {h₀ h h' : Heap} {L : Addr} {m m' : Str → Option Value} (F : Fr h₀ L h m) (n : h'.Ns L m') {X : List Addr} (k : Kept (L :: X) h h') (hX : ∀ x ∈ X, h₀.get? x = none ∧ x ≠ L) : Fr h₀ L h' m' :=
  ⟨n, fun b o e => k b o (F.keep b o e) (by
    intro q
    rcases List.mem_cons.mp q with rfl | q
    · exact Nat.lt_irrefl _ (Nat.lt_of_lt_of_le (Heap.lt_size e) F.above)
    · rw [(hX _ q).1] at e; cases e), F.above⟩
theorem News.but {h₀ h h' : Heap} {L : Addr} {news : List (Addr × Obj)} (N : News h₀ L h news) (k : Kept [L] h h') : News h₀ L h' news := fun p hp => ⟨k _ _ (N p hp).1 (by simpa using (N p hp).2.1), (N p hp).2⟩
end
section
theorem pkG {x a b : Nat} {P : Prop} (_ : x < b ∧ P) (k : a < b) : a < b := k
theorem pk0 {a b : Nat} {P : Prop} (h : a < b ∧ P) : a < b := h.1
theorem pk1 {x0 a b : Nat} {P : Prop} (h : x0 < b ∧ a < b ∧ P) : a < b := h.2.1
theorem pk2 {x0 x1 a b : Nat} {P : Prop} (h : x0 < b ∧ x1 < b ∧ a < b ∧ P) : a < b := h.2.2.1
theorem pk3 {x0 x1 x2 a b : Nat} {P : Prop} (h : x0 < b ∧ x1 < b ∧ x2 < b ∧ a < b ∧ P) : a < b := h.2.2.2.1
theorem pk4 {x0 x1 x2 x3 a b : Nat} {P : Prop} (h : x0 < b ∧ x1 < b ∧ x2 < b ∧ x3 < b ∧ a < b ∧ P) : a < b := h.2.2.2.2.1
theorem pk5 {x0 x1 x2 x3 x4 a b : Nat} {P : Prop} (h : x0 < b ∧ x1 < b ∧ x2 < b ∧ x3 < b ∧ x4 < b ∧ a < b ∧ P) : a < b := h.2.2.2.2.2.1
theorem pk6 {x0 x1 x2 x3 x4 x5 a b : Nat} {P : Prop} (h : x0 < b ∧ x1 < b ∧ x2 < b ∧ x3 < b ∧ x4 < b ∧ x5 < b ∧ a < b ∧ P) : a < b := h.2.2.2.2.2.2.1
theorem pk7 {x0 x1 x2 x3 x4 x5 x6 a b : Nat} {P : Prop} (h : x0 < b ∧ x1 < b ∧ x2 < b ∧ x3 < b ∧ x4 < b ∧ x5 < b ∧ x6 < b ∧ a < b ∧ P) : a < b := h.2.2.2.2.2.2.2.1
theorem pk8 {x0 x1 x2 x3 x4 x5 x6 x7 a b : Nat} {P : Prop} (h : x0 < b ∧ x1 < b ∧ x2 < b ∧ x3 < b ∧ x4 < b ∧ x5 < b ∧ x6 < b ∧ x7 < b ∧ a < b ∧ P) : a < b := h.2.2.2.2.2.2.2.2.1
theorem pk9 {x0 x1 x2 x3 x4 x5 x6 x7 x8 a b : Nat} {P : Prop} (h : x0 < b ∧ x1 < b ∧ x2 < b ∧ x3 < b ∧ x4 < b ∧ x5 < b ∧ x6 < b ∧ x7 < b ∧ x8 < b ∧ a < b ∧ P) : a < b := h.2.2.2.2.2.2.2.2.2.1
theorem pk10 {x0 x1 x2 x3 x4 x5 x6 x7 x8 x9 a b : Nat} {P : Prop} (h : x0 < b ∧ x1 < b ∧ x2 < b ∧ x3 < b ∧ x4 < b ∧ x5 < b ∧ x6 < b ∧ x7 < b ∧ x8 < b ∧ x9 < b ∧ a < b ∧ P) : a < b := h.2.2.2.2.2.2.2.2.2.2.1
theorem pk11 {x0 x1 x2 x3 x4 x5 x6 x7 x8 x9 x10 a b : Nat} {P : Prop} (h : x0 < b ∧ x1 < b ∧ x2 < b ∧ x3 < b ∧ x4 < b ∧ x5 < b ∧ x6 < b ∧ x7 < b ∧ x8 < b ∧ x9 < b ∧ x10 < b ∧ a < b ∧ P) : a < b := h.2.2.2.2.2.2.2.2.2.2.2.1
theorem pk12 {x0 x1 x2 x3 x4 x5 x6 x7 x8 x9 x10 x11 a b : Nat} {P : Prop} (h : x0 < b ∧ x1 < b ∧ x2 < b ∧ x3 < b ∧ x4 < b ∧ x5 < b ∧ x6 < b ∧ x7 < b ∧ x8 < b ∧ x9 < b ∧ x10 < b ∧ x11 < b ∧ a < b ∧ P) : a < b := h.2.2.2.2.2.2.2.2.2.2.2.2.1
theorem pk13 {x0 x1 x2 x3 x4 x5 x6 x7 x8 x9 x10 x11 x12 a b : Nat} {P : Prop} (h : x0 < b ∧ x1 < b ∧ x2 < b ∧ x3 < b ∧ x4 < b ∧ x5 < b ∧ x6 < b ∧ x7 < b ∧ x8 < b ∧ x9 < b ∧ x10 < b ∧ x11 < b ∧ x12 < b ∧ a < b ∧ P) : a < b := h.2.2.2.2.2.2.2.2.2.2.2.2.2.1
theorem pk14 {x0 x1 x2 x3 x4 x5 x6 x7 x8 x9 x10 x11 x12 x13 a b : Nat} {P : Prop} (h : x0 < b ∧ x1 < b ∧ x2 < b ∧ x3 < b ∧ x4 < b ∧ x5 < b ∧ x6 < b ∧ x7 < b ∧ x8 < b ∧ x9 < b ∧ x10 < b ∧ x11 < b ∧ x12 < b ∧ x13 < b ∧ a < b ∧ P) : a < b := h.2.2.2.2.2.2.2.2.2.2.2.2.2.2.1
theorem pk15 {x0 x1 x2 x3 x4 x5 x6 x7 x8 x9 x10 x11 x12 x13 x14 a b : Nat} {P : Prop} (h : x0 < b ∧ x1 < b ∧ x2 < b ∧ x3 < b ∧ x4 < b ∧ x5 < b ∧ x6 < b ∧ x7 < b ∧ x8 < b ∧ x9 < b ∧ x10 < b ∧ x11 < b ∧ x12 < b ∧ x13 < b ∧ x14 < b ∧ a < b ∧ P) : a < b := h.2.2.2.2.2.2.2.2.2.2.2.2.2.2.2.1
theorem pk16 {x0 x1 x2 x3 x4 x5 x6 x7 x8 x9 x10 x11 x12 x13 x14 x15 a b : Nat} {P : Prop} (h : x0 < b ∧ x1 < b ∧ x2 < b ∧ x3 < b ∧ x4 < b ∧ x5 < b ∧ x6 < b ∧ x7 < b ∧ x8 < b ∧ x9 < b ∧ x10 < b ∧ x11 < b ∧ x12 < b ∧ x13 < b ∧ x14 < b ∧ x15 < b ∧ a < b ∧ P) : a < b := h.2.2.2.2.2.2.2.2.2.2.2.2.2.2.2.2.1
theorem pk17 {x0 x1 x2 x3 x4 x5 x6 x7 x8 x9 x10 x11 x12 x13 x14 x15 x16 a b : Nat} {P : Prop} (h : x0 < b ∧ x1 < b ∧ x2 < b ∧ x3 < b ∧ x4 < b ∧ x5 < b ∧ x6 < b ∧ x7 < b ∧ x8 < b ∧ x9 < b ∧ x10 < b ∧ x11 < b ∧ x12 < b ∧ x13 < b ∧ x14 < b ∧ x15 < b ∧ x16 < b ∧ a < b ∧ P) : a < b := h.2.2.2.2.2.2.2.2.2.2.2.2.2.2.2.2.2.1
theorem pk18 {x0 x1 x2 x3 x4 x5 x6 x7 x8 x9 x10 x11 x12 x13 x14 x15 x16 x17 a b : Nat} {P : Prop} (h : x0 < b ∧ x1 < b ∧ x2 < b ∧ x3 < b ∧ x4 < b ∧ x5 < b ∧ x6 < b ∧ x7 < b ∧ x8 < b ∧ x9 < b ∧ x10 < b ∧ x11 < b ∧ x12 < b ∧ x13 < b ∧ x14 < b ∧ x15 < b ∧ x16 < b ∧ x17 < b ∧ a < b ∧ P) : a < b := h.2.2.2.2.2.2.2.2.2.2.2.2.2.2.2.2.2.2.1
theorem pk19 {x0 x1 x2 x3 x4 x5 x6 x7 x8 x9 x10 x11 x12 x13 x14 x15 x16 x17 x18 a b : Nat} {P : Prop} (h : x0 < b ∧ x1 < b ∧ x2 < b ∧ x3 < b ∧ x4 < b ∧ x5 < b ∧ x6 < b ∧ x7 < b ∧ x8 < b ∧ x9 < b ∧ x10 < b ∧ x11 < b ∧ x12 < b ∧ x13 < b ∧ x14 < b ∧ x15 < b ∧ x16 < b ∧ x17 < b ∧ x18 < b ∧ a < b ∧ P) : a < b := h.2.2.2.2.2.2.2.2.2.2.2.2.2.2.2.2.2.2.2.1
theorem pk20 {x0 x1 x2 x3 x4 x5 x6 x7 x8 x9 x10 x11 x12 x13 x14 x15 x16 x17 x18 x19 a b : Nat} {P : Prop} (h : x0 < b ∧ x1 < b ∧ x2 < b ∧ x3 < b ∧ x4 < b ∧ x5 < b ∧ x6 < b ∧ x7 < b ∧ x8 < b ∧ x9 < b ∧ x10 < b ∧ x11 < b ∧ x12 < b ∧ x13 < b ∧ x14 < b ∧ x15 < b ∧ x16 < b ∧ x17 < b ∧ x18 < b ∧ x19 < b ∧ a < b ∧ P) : a < b := h.2.2.2.2.2.2.2.2.2.2.2.2.2.2.2.2.2.2.2.2.1
theorem pk21 {x0 x1 x2 x3 x4 x5 x6 x7 x8 x9 x10 x11 x12 x13 x14 x15 x16 x17 x18 x19 x20 a b : Nat} {P : Prop} (h : x0 < b ∧ x1 < b ∧ x2 < b ∧ x3 < b ∧ x4 < b ∧ x5 < b ∧ x6 < b ∧ x7 < b ∧ x8 < b ∧ x9 < b ∧ x10 < b ∧ x11 < b ∧ x12 < b ∧ x13 < b ∧ x14 < b ∧ x15 < b ∧ x16 < b ∧ x17 < b ∧ x18 < b ∧ x19 < b ∧ x20 < b ∧ a < b ∧ P) : a < b := h.2.2.2.2.2.2.2.2.2.2.2.2.2.2.2.2.2.2.2.2.2.1
theorem pk22 {x0 x1 x2 x3 x4 x5 x6 x7 x8 x9 x10 x11 x12 x13 x14 x15 x16 x17 x18 x19 x20 x21 a b : Nat} {P : Prop} (h : x0 < b ∧ x1 < b ∧ x2 < b ∧ x3 < b ∧ x4 < b ∧ x5 < b ∧ x6 < b ∧ x7 < b ∧ x8 < b ∧ x9 < b ∧ x10 < b ∧ x11 < b ∧ x12 < b ∧ x13 < b ∧ x14 < b ∧ x15 < b ∧ x16 < b ∧ x17 < b ∧ x18 < b ∧ x19 < b ∧ x20 < b ∧ x21 < b ∧ a < b ∧ P) : a < b := h.2.2.2.2.2.2.2.2.2.2.2.2.2.2.2.2.2.2.2.2.2.2.1
theorem pk23 {x0 x1 x2 x3 x4 x5 x6 x7 x8 x9 x10 x11 x12 x13 x14 x15 x16 x17 x18 x19 x20 x21 x22 a b : Nat} {P : Prop} (h : x0 < b ∧ x1 < b ∧ x2 < b ∧ x3 < b ∧ x4 < b ∧ x5 < b ∧ x6 < b ∧ x7 < b ∧ x8 < b ∧ x9 < b ∧ x10 < b ∧ x11 < b ∧ x12 < b ∧ x13 < b ∧ x14 < b ∧ x15 < b ∧ x16 < b ∧ x17 < b ∧ x18 < b ∧ x19 < b ∧ x20 < b ∧ x21 < b ∧ x22 < b ∧ a < b ∧ P) : a < b := h.2.2.2.2.2.2.2.2.2.2.2.2.2.2.2.2.2.2.2.2.2.2.2.1
theorem pk24 {x0 x1 x2 x3 x4 x5 x6 x7 x8 x9 x10 x11 x12 x13 x14 x15 x16 x17 x18 x19 x20 x21 x22 x23 a b : Nat} {P : Prop} (h : x0 < b ∧ x1 < b ∧ x2 < b ∧ x3 < b ∧ x4 < b ∧ x5 < b ∧ x6 < b ∧ x7 < b ∧ x8 < b ∧ x9 < b ∧ x10 < b ∧ x11 < b ∧ x12 < b ∧ x13 < b ∧ x14 < b ∧ x15 < b ∧ x16 < b ∧ x17 < b ∧ x18 < b ∧ x19 < b ∧ x20 < b ∧ x21 < b ∧ x22 < b ∧ x23 < b ∧ a < b ∧ P) : a < b := h.2.2.2.2.2.2.2.2.2.2.2.2.2.2.2.2.2.2.2.2.2.2.2.2.1
theorem pk25 {x0 x1 x2 x3 x4 x5 x6 x7 x8 x9 x10 x11 x12 x13 x14 x15 x16 x17 x18 x19 x20 x21 x22 x23 x24 a b : Nat} {P : Prop} (h : x0 < b ∧ x1 < b ∧ x2 < b ∧ x3 < b ∧ x4 < b ∧ x5 < b ∧ x6 < b ∧ x7 < b ∧ x8 < b ∧ x9 < b ∧ x10 < b ∧ x11 < b ∧ x12 < b ∧ x13 < b ∧ x14 < b ∧ x15 < b ∧ x16 < b ∧ x17 < b ∧ x18 < b ∧ x19 < b ∧ x20 < b ∧ x21 < b ∧ x22 < b ∧ x23 < b ∧ x24 < b ∧ a < b ∧ P) : a < b := h.2.2.2.2.2.2.2.2.2.2.2.2.2.2.2.2.2.2.2.2.2.2.2.2.2.1
theorem pk26 {x0 x1 x2 x3 x4 x5 x6 x7 x8 x9 x10 x11 x12 x13 x14 x15 x16 x17 x18 x19 x20 x21 x22 x23 x24 x25 a b : Nat} {P : Prop} (h : x0 < b ∧ x1 < b ∧ x2 < b ∧ x3 < b ∧ x4 < b ∧ x5 < b ∧ x6 < b ∧ x7 < b ∧ x8 < b ∧ x9 < b ∧ x10 < b ∧ x11 < b ∧ x12 < b ∧ x13 < b ∧ x14 < b ∧ x15 < b ∧ x16 < b ∧ x17 < b ∧ x18 < b ∧ x19 < b ∧ x20 < b ∧ x21 < b ∧ x22 < b ∧ x23 < b ∧ x24 < b ∧ x25 < b ∧ a < b ∧ P) : a < b := h.2.2.2.2.2.2.2.2.2.2.2.2.2.2.2.2.2.2.2.2.2.2.2.2.2.2.1
theorem pk27 {x0 x1 x2 x3 x4 x5 x6 x7 x8 x9 x10 x11 x12 x13 x14 x15 x16 x17 x18 x19 x20 x21 x22 x23 x24 x25 x26 a b : Nat} {P : Prop} (h : x0 < b ∧ x1 < b ∧ x2 < b ∧ x3 < b ∧ x4 < b ∧ x5 < b ∧ x6 < b ∧ x7 < b ∧ x8 < b ∧ x9 < b ∧ x10 < b ∧ x11 < b ∧ x12 < b ∧ x13 < b ∧ x14 < b ∧ x15 < b ∧ x16 < b ∧ x17 < b ∧ x18 < b ∧ x19 < b ∧ x20 < b ∧ x21 < b ∧ x22 < b ∧ x23 < b ∧ x24 < b ∧ x25 < b ∧ x26 < b ∧ a < b ∧ P) : a < b := h.2.2.2.2.2.2.2.2.2.2.2.2.2.2.2.2.2.2.2.2.2.2.2.2.2.2.2.1
theorem pk28 {x0 x1 x2 x3 x4 x5 x6 x7 x8 x9 x10 x11 x12 x13 x14 x15 x16 x17 x18 x19 x20 x21 x22 x23 x24 x25 x26 x27 a b : Nat} {P : Prop} (h : x0 < b ∧ x1 < b ∧ x2 < b ∧ x3 < b ∧ x4 < b ∧ x5 < b ∧ x6 < b ∧ x7 < b ∧ x8 < b ∧ x9 < b ∧ x10 < b ∧ x11 < b ∧ x12 < b ∧ x13 < b ∧ x14 < b ∧ x15 < b ∧ x16 < b ∧ x17 < b ∧ x18 < b ∧ x19 < b ∧ x20 < b ∧ x21 < b ∧ x22 < b ∧ x23 < b ∧ x24 < b ∧ x25 < b ∧ x26 < b ∧ x27 < b ∧ a < b ∧ P) : a < b := h.2.2.2.2.2.2.2.2.2.2.2.2.2.2.2.2.2.2.2.2.2.2.2.2.2.2.2.2.1
theorem pk29 {x0 x1 x2 x3 x4 x5 x6 x7 x8 x9 x10 x11 x12 x13 x14 x15 x16 x17 x18 x19 x20 x21 x22 x23 x24 x25 x26 x27 x28 a b : Nat} {P : Prop} (h : x0 < b ∧ x1 < b ∧ x2 < b ∧ x3 < b ∧ x4 < b ∧ x5 < b ∧ x6 < b ∧ x7 < b ∧ x8 < b ∧ x9 < b ∧ x10 < b ∧ x11 < b ∧ x12 < b ∧ x13 < b ∧ x14 < b ∧ x15 < b ∧ x16 < b ∧ x17 < b ∧ x18 < b ∧ x19 < b ∧ x20 < b ∧ x21 < b ∧ x22 < b ∧ x23 < b ∧ x24 < b ∧ x25 < b ∧ x26 < b ∧ x27 < b ∧ x28 < b ∧ a < b ∧ P) : a < b := h.2.2.2.2.2.2.2.2.2.2.2.2.2.2.2.2.2.2.2.2.2.2.2.2.2.2.2.2.2.1
theorem pk30 {x0 x1 x2 x3 x4 x5 x6 x7 x8 x9 x10 x11 x12 x13 x14 x15 x16 x17 x18 x19 x20 x21 x22 x23 x24 x25 x26 x27 x28 x29 a b : Nat} {P : Prop} (h : x0 < b ∧ x1 < b ∧ x2 < b ∧ x3 < b ∧ x4 < b ∧ x5 < b ∧ x6 < b ∧ x7 < b ∧ x8 < b ∧ x9 < b ∧ x10 < b ∧ x11 < b ∧ x12 < b ∧ x13 < b ∧ x14 < b ∧ x15 < b ∧ x16 < b ∧ x17 < b ∧ x18 < b ∧ x19 < b ∧ x20 < b ∧ x21 < b ∧ x22 < b ∧ x23 < b ∧ x24 < b ∧ x25 < b ∧ x26 < b ∧ x27 < b ∧ x28 < b ∧ x29 < b ∧ a < b ∧ P) : a < b := h.2.2.2.2.2.2.2.2.2.2.2.2.2.2.2.2.2.2.2.2.2.2.2.2.2.2.2.2.2.2.1
theorem pk31 {x0 x1 x2 x3 x4 x5 x6 x7 x8 x9 x10 x11 x12 x13 x14 x15 x16 x17 x18 x19 x20 x21 x22 x23 x24 x25 x26 x27 x28 x29 x30 a b : Nat} {P : Prop} (h : x0 < b ∧ x1 < b ∧ x2 < b ∧ x3 < b ∧ x4 < b ∧ x5 < b ∧ x6 < b ∧ x7 < b ∧ x8 < b ∧ x9 < b ∧ x10 < b ∧ x11 < b ∧ x12 < b ∧ x13 < b ∧ x14 < b ∧ x15 < b ∧ x16 < b ∧ x17 < b ∧ x18 < b ∧ x19 < b ∧ x20 < b ∧ x21 < b ∧ x22 < b ∧ x23 < b ∧ x24 < b ∧ x25 < b ∧ x26 < b ∧ x27 < b ∧ x28 < b ∧ x29 < b ∧ x30 < b ∧ a < b ∧ P) : a < b := h.2.2.2.2.2.2.2.2.2.2.2.2.2.2.2.2.2.2.2.2.2.2.2.2.2.2.2.2.2.2.2.1
theorem pk32 {x0 x1 x2 x3 x4 x5 x6 x7 x8 x9 x10 x11 x12 x13 x14 x15 x16 x17 x18 x19 x20 x21 x22 x23 x24 x25 x26 x27 x28 x29 x30 x31 a b : Nat} {P : Prop} (h : x0 < b ∧ x1 < b ∧ x2 < b ∧ x3 < b ∧ x4 < b ∧ x5 < b ∧ x6 < b ∧ x7 < b ∧ x8 < b ∧ x9 < b ∧ x10 < b ∧ x11 < b ∧ x12 < b ∧ x13 < b ∧ x14 < b ∧ x15 < b ∧ x16 < b ∧ x17 < b ∧ x18 < b ∧ x19 < b ∧ x20 < b ∧ x21 < b ∧ x22 < b ∧ x23 < b ∧ x24 < b ∧ x25 < b ∧ x26 < b ∧ x27 < b ∧ x28 < b ∧ x29 < b ∧ x30 < b ∧ x31 < b ∧ a < b ∧ P) : a < b := h.2.2.2.2.2.2.2.2.2.2.2.2.2.2.2.2.2.2.2.2.2.2.2.2.2.2.2.2.2.2.2.2.1
theorem pk33 {x0 x1 x2 x3 x4 x5 x6 x7 x8 x9 x10 x11 x12 x13 x14 x15 x16 x17 x18 x19 x20 x21 x22 x23 x24 x25 x26 x27 x28 x29 x30 x31 x32 a b : Nat} {P : Prop} (h : x0 < b ∧ x1 < b ∧ x2 < b ∧ x3 < b ∧ x4 < b ∧ x5 < b ∧ x6 < b ∧ x7 < b ∧ x8 < b ∧ x9 < b ∧ x10 < b ∧ x11 < b ∧ x12 < b ∧ x13 < b ∧ x14 < b ∧ x15 < b ∧ x16 < b ∧ x17 < b ∧ x18 < b ∧ x19 < b ∧ x20 < b ∧ x21 < b ∧ x22 < b ∧ x23 < b ∧ x24 < b ∧ x25 < b ∧ x26 < b ∧ x27 < b ∧ x28 < b ∧ x29 < b ∧ x30 < b ∧ x31 < b ∧ x32 < b ∧ a < b ∧ P) : a < b := h.2.2.2.2.2.2.2.2.2.2.2.2.2.2.2.2.2.2.2.2.2.2.2.2.2.2.2.2.2.2.2.2.2.1
theorem pk34 {x0 x1 x2 x3 x4 x5 x6 x7 x8 x9 x10 x11 x12 x13 x14 x15 x16 x17 x18 x19 x20 x21 x22 x23 x24 x25 x26 x27 x28 x29 x30 x31 x32 x33 a b : Nat} {P : Prop} (h : x0 < b ∧ x1 < b ∧ x2 < b ∧ x3 < b ∧ x4 < b ∧ x5 < b ∧ x6 < b ∧ x7 < b ∧ x8 < b ∧ x9 < b ∧ x10 < b ∧ x11 < b ∧ x12 < b ∧ x13 < b ∧ x14 < b ∧ x15 < b ∧ x16 < b ∧ x17 < b ∧ x18 < b ∧ x19 < b ∧ x20 < b ∧ x21 < b ∧ x22 < b ∧ x23 < b ∧ x24 < b ∧ x25 < b ∧ x26 < b ∧ x27 < b ∧ x28 < b ∧ x29 < b ∧ x30 < b ∧ x31 < b ∧ x32 < b ∧ x33 < b ∧ a < b ∧ P) : a < b := h.2.2.2.2.2.2.2.2.2.2.2.2.2.2.2.2.2.2.2.2.2.2.2.2.2.2.2.2.2.2.2.2.2.2.1
theorem pk35 {x0 x1 x2 x3 x4 x5 x6 x7 x8 x9 x10 x11 x12 x13 x14 x15 x16 x17 x18 x19 x20 x21 x22 x23 x24 x25 x26 x27 x28 x29 x30 x31 x32 x33 x34 a b : Nat} {P : Prop} (h : x0 < b ∧ x1 < b ∧ x2 < b ∧ x3 < b ∧ x4 < b ∧ x5 < b ∧ x6 < b ∧ x7 < b ∧ x8 < b ∧ x9 < b ∧ x10 < b ∧ x11 < b ∧ x12 < b ∧ x13 < b ∧ x14 < b ∧ x15 < b ∧ x16 < b ∧ x17 < b ∧ x18 < b ∧ x19 < b ∧ x20 < b ∧ x21 < b ∧ x22 < b ∧ x23 < b ∧ x24 < b ∧ x25 < b ∧ x26 < b ∧ x27 < b ∧ x28 < b ∧ x29 < b ∧ x30 < b ∧ x31 < b ∧ x32 < b ∧ x33 < b ∧ x34 < b ∧ a < b ∧ P) : a < b := h.2.2.2.2.2.2.2.2.2.2.2.2.2.2.2.2.2.2.2.2.2.2.2.2.2.2.2.2.2.2.2.2.2.2.2.1
theorem pk36 {x0 x1 x2 x3 x4 x5 x6 x7 x8 x9 x10 x11 x12 x13 x14 x15 x16 x17 x18 x19 x20 x21 x22 x23 x24 x25 x26 x27 x28 x29 x30 x31 x32 x33 x34 x35 a b : Nat} {P : Prop} (h : x0 < b ∧ x1 < b ∧ x2 < b ∧ x3 < b ∧ x4 < b ∧ x5 < b ∧ x6 < b ∧ x7 < b ∧ x8 < b ∧ x9 < b ∧ x10 < b ∧ x11 < b ∧ x12 < b ∧ x13 < b ∧ x14 < b ∧ x15 < b ∧ x16 < b ∧ x17 < b ∧ x18 < b ∧ x19 < b ∧ x20 < b ∧ x21 < b ∧ x22 < b ∧ x23 < b ∧ x24 < b ∧ x25 < b ∧ x26 < b ∧ x27 < b ∧ x28 < b ∧ x29 < b ∧ x30 < b ∧ x31 < b ∧ x32 < b ∧ x33 < b ∧ x34 < b ∧ x35 < b ∧ a < b ∧ P) : a < b := h.2.2.2.2.2.2.2.2.2.2.2.2.2.2.2.2.2.2.2.2.2.2.2.2.2.2.2.2.2.2.2.2.2.2.2.2.1
theorem pk37 {x0 x1 x2 x3 x4 x5 x6 x7 x8 x9 x10 x11 x12 x13 x14 x15 x16 x17 x18 x19 x20 x21 x22 x23 x24 x25 x26 x27 x28 x29 x30 x31 x32 x33 x34 x35 x36 a b : Nat} {P : Prop} (h : x0 < b ∧ x1 < b ∧ x2 < b ∧ x3 < b ∧ x4 < b ∧ x5 < b ∧ x6 < b ∧ x7 < b ∧ x8 < b ∧ x9 < b ∧ x10 < b ∧ x11 < b ∧ x12 < b ∧ x13 < b ∧ x14 < b ∧ x15 < b ∧ x16 < b ∧ x17 < b ∧ x18 < b ∧ x19 < b ∧ x20 < b ∧ x21 < b ∧ x22 < b ∧ x23 < b ∧ x24 < b ∧ x25 < b ∧ x26 < b ∧ x27 < b ∧ x28 < b ∧ x29 < b ∧ x30 < b ∧ x31 < b ∧ x32 < b ∧ x33 < b ∧ x34 < b ∧ x35 < b ∧ x36 < b ∧ a < b ∧ P) : a < b := h.2.2.2.2.2.2.2.2.2.2.2.2.2.2.2.2.2.2.2.2.2.2.2.2.2.2.2.2.2.2.2.2.2.2.2.2.2.1
theorem pk38 {x0 x1 x2 x3 x4 x5 x6 x7 x8 x9 x10 x11 x12 x13 x14 x15 x16 x17 x18 x19 x20 x21 x22 x23 x24 x25 x26 x27 x28 x29 x30 x31 x32 x33 x34 x35 x36 x37 a b : Nat} {P : Prop} (h : x0 < b ∧ x1 < b ∧ x2 < b ∧ x3 < b ∧ x4 < b ∧ x5 < b ∧ x6 < b ∧ x7 < b ∧ x8 < b ∧ x9 < b ∧ x10 < b ∧ x11 < b ∧ x12 < b ∧ x13 < b ∧ x14 < b ∧ x15 < b ∧ x16 < b ∧ x17 < b ∧ x18 < b ∧ x19 < b ∧ x20 < b ∧ x21 < b ∧ x22 < b ∧ x23 < b ∧ x24 < b ∧ x25 < b ∧ x26 < b ∧ x27 < b ∧ x28 < b ∧ x29 < b ∧ x30 < b ∧ x31 < b ∧ x32 < b ∧ x33 < b ∧ x34 < b ∧ x35 < b ∧ x36 < b ∧ x37 < b ∧ a < b ∧ P) : a < b := h.2.2.2.2.2.2.2.2.2.2.2.2.2.2.2.2.2.2.2.2.2.2.2.2.2.2.2.2.2.2.2.2.2.2.2.2.2.2.1
theorem pk39 {x0 x1 x2 x3 x4 x5 x6 x7 x8 x9 x10 x11 x12 x13 x14 x15 x16 x17 x18 x19 x20 x21 x22 x23 x24 x25 x26 x27 x28 x29 x30 x31 x32 x33 x34 x35 x36 x37 x38 a b : Nat} {P : Prop} (h : x0 < b ∧ x1 < b ∧ x2 < b ∧ x3 < b ∧ x4 < b ∧ x5 < b ∧ x6 < b ∧ x7 < b ∧ x8 < b ∧ x9 < b ∧ x10 < b ∧ x11 < b ∧ x12 < b ∧ x13 < b ∧ x14 < b ∧ x15 < b ∧ x16 < b ∧ x17 < b ∧ x18 < b ∧ x19 < b ∧ x20 < b ∧ x21 < b ∧ x22 < b ∧ x23 < b ∧ x24 < b ∧ x25 < b ∧ x26 < b ∧ x27 < b ∧ x28 < b ∧ x29 < b ∧ x30 < b ∧ x31 < b ∧ x32 < b ∧ x33 < b ∧ x34 < b ∧ x35 < b ∧ x36 < b ∧ x37 < b ∧ x38 < b ∧ a < b ∧ P) : a < b := h.2.2.2.2.2.2.2.2.2.2.2.2.2.2.2.2.2.2.2.2.2.2.2.2.2.2.2.2.2.2.2.2.2.2.2.2.2.2.2.1
/-- a look only: is there a bundle of facts below b, and does k find a in it -/
theorem pkI {x a b : Nat} {P : Prop} (h : x < b ∧ P) (k : (x < b ∧ P) → a < b) : a < b := k h
theorem ltTail {a m b : Nat} (h : a < m) (k : m < b) : a < b := Nat.lt_trans h k
/-- a bundle of facts says of a whole ledger that it lies below -/
theorem allLt_ne {d : Addr} : ∀ {l : List (Addr × Obj)}, AllLt d l → ∀ p ∈ l, p.1 ≠ d
  | [], _, _, hp => (nomatch hp)
  | q :: r, h, p, hp => by
    rcases List.mem_cons.mp hp with rfl | hp
    · exact Nat.ne_of_lt h.1
    · exact allLt_ne h.2 p hp
end

section
theorem calm8 : True := by
  w_top off
  exact True.intro
theorem words4 : True := by
  k_with "my k_room" => (first | exact Nat.le_of_ble_eq_true rfl | (simp only [depth_under_make, depth_under_kw, depth_in1, depth_deeper, depth_caller, recursionLimit] at *; omega))
  k_with "my eval ListComp" => (((fail_if_success (rename LibOk => x9)); refine Stop.out ?_))
  k_with "my exec Assign cons ListComp" => (((fail_if_success (rename LibOk => x9)); refine Stop.out ?_))
  k_with "my mine enter" => ((
  refine wpAny_call ?_
  first
  | (refine' code_defG ?k1 ?k2 ?k3 ?k4 ?k5 ?kA ?kF ?kK ?k6 ?k7 ?k8 ?k9 ?kB ?_ ?c2 ?c3 ?c4 ?c5; (case kA => exact rfl); (case kF => exact rfl); (case kK => first | exact rfl | assumption); (case k1 => k_asm); (case k2 => k_asm); (case k3 => k_asm); (case k4 => k_asm); (case k5 => k_asm); (case k6 => k_is); (case k7 => k_is); (case k8 => k_room); (case k9 => first | exact BindsTo.of_eq rfl | exact binds_K (by k_in) rfl (by k_is) rfl rfl rfl | fail "mine enter: binds"); (case c5 => decide); (case kB => exact locs rfl); (case c2 => exact rfl); (case c3 => exact rfl); (case c4 => exact rfl); k_whole)
  | (refine' code_defCG ?k1 ?k2 ?k3 ?k4 ?k5 ?kA ?kF ?kK ?k6 ?k7 ?k8 ?k9 ?kB ?kD ?_ ?c2 ?c3 ?c4; (case kA => exact rfl); (case kF => exact rfl); (case kK => first | exact rfl | assumption); (case k1 => k_asm); (case k2 => k_asm); (case k3 => k_asm); (case k4 => k_asm); (case k5 => k_asm); (case k6 => k_is); (case k7 => k_is); (case k8 => k_room); (case k9 => first | exact BindsTo.of_eq rfl | exact binds_K (by k_in) rfl (by k_is) rfl rfl rfl | fail "mine enter: binds"); (case kB => exact rfl); (case kD => decide +kernel); (case c2 => exact rfl); (case c3 => exact rfl); (case c4 => exact rfl); k_whole)))
  k_with "my mine dip" => ((k_here; k_dflt (refine' use_dip ?hh ?hd ?hu ?hA ?B ?F ?K ?T ?hcs ?N ?V ?h0 ?hx0 ?hx1 ?hl ?hk ?_; (case hh => exact rfl); (case hA => exact rfl); (case hd => first | exact Nat.le_of_ble_eq_true rfl | (simp only [depth_in1, depth_deeper]; omega)); (case hu => first | exact Nat.le_of_ble_eq_true rfl | (simp only [units_in1, units_deeper]; omega)); (case B => k_asm); (case F => k_asm); (case K => k_asm); (case T => k_asm); (case hcs => first | exact rfl | assumption); (case N => k_asm); (case V => k_updF); (case h0 => assumption); (case hx0 => assumption); (case hx1 => assumption); (case hl => (refine' IntsAt.up ?ha (Fr.keep ?hb); (case hb => k_asm); (case ha => k_asm))); (case hk => decide); k_whole); intro i' t' at' ta' x' tx' n' h' tk' b0 b1 b2 b3 b4 F' N'; (try dsimp only at N'); (try k_sweep)))
  k_with "my call ref" => (first | walk_at "mine dip" | ((with_reducible show wpAny _ _ (call (Value.ref 168) _) _ _ _); refine Stop.out ?_) | ((with_reducible show wpAny _ _ (call (Value.ref 188) _) _ _ _); refine Stop.out ?_) | ((with_reducible show wpAny _ _ (call (Value.ref 224) _) _ _ _); refine Stop.out ?_) | ((with_reducible show wpAny _ _ (call (Value.ref 229) _) _ _ _); refine Stop.out ?_) | ((with_reducible show wpAny _ _ (call (Value.ref 236) _) _ _ _); refine Stop.out ?_) | ((with_reducible show wpAny _ _ (call (Value.ref 77) _) _ _ _); refine Stop.out ?_) | ((with_reducible show wpAny _ _ (call (Value.ref 65) _) _ _ _); refine Stop.out ?_) | ((with_reducible show wpAny _ _ (call (Value.ref 241) _) _ _ _); refine Stop.out ?_) | ((with_reducible show wpAny _ _ (call (Value.ref 246) _) _ _ _); refine Stop.out ?_) | ((with_reducible show wpAny _ _ (call (Value.ref 253) _) _ _ _); refine Stop.out ?_) | ((with_reducible show wpAny _ _ (call (Value.ref 105) _) _ _ _); refine Stop.out ?_))
  k_with "my mine ct" => (((rename Ct _ _ _ _ _ _ _ _ _ _ _ => hCt); k_dflt (refine' use_ct hCt ?hh ?hd ?hu ?hA ?B ?F ?K ?T ?hcs ?hX ?_; (case hh => exact rfl); (case hA => exact rfl); (case hd => first | exact Nat.le_of_ble_eq_true rfl | (simp only [depth_in1, depth_deeper]; omega)); (case hu => first | exact Nat.le_of_ble_eq_true rfl | (simp only [units_in1, units_deeper]; omega)); (case B => k_asm); (case F => k_asm); (case K => k_asm); (case T => k_asm); (case hcs => first | exact rfl | assumption); (case hX => first | exact News.inX (by k_asm) (by k_mem) | assumption | (intro x hx; cases hx)))))
  k_with "my storeName" => ((k_here; k_dflt (first | (refine' stK ?F ?N ?_ ?a ?b; (case F => k_asm); (case N => k_asm); (case a => rfl); (case b => rfl); k_whole; intro h' F' N' kS'; (try k_sweep)) | (refine' stC ?F ?N ?c ?U ?d ?_ ?a ?b; (case a => rfl); (case b => rfl); (case F => k_asm); (case N => k_asm); (case c => rfl); (case U => k_updF); (case d => k_asm); k_whole; intro h' o' F' N' d' kS'; (try dsimp only at N'); (try k_sweep)))))
  k_with "my compareOp Is ref ref" => ((k_here; (with_reducible show wpAny _ _ (compareOp CmpOp.Is (Value.ref _) (Value.ref _)) _ _ _); k_dflt (refine' kto_is ?a ?b ?n ?c ?_; (case a => first | kto_obj | (refine' gr_get ?F ?e; (case F => k_asm); (case e => with_reducible assumption))); (case b => first | kto_obj | (refine' gr_get ?F ?e; (case F => k_asm); (case e => with_reducible assumption))); (case n => first | assumption | exact Ne.symm (by assumption) | kto_ne); (case c => kto_not); k_whole)))
  k_with "my compareOp IsNot ref ref" => ((k_here; (with_reducible show wpAny _ _ (compareOp CmpOp.IsNot (Value.ref _) (Value.ref _)) _ _ _); k_dflt (refine' kto_isnot ?a ?b ?n ?c ?_; (case a => first | kto_obj | (refine' gr_get ?F ?e; (case F => k_asm); (case e => with_reducible assumption))); (case b => first | kto_obj | (refine' gr_get ?F ?e; (case F => k_asm); (case e => with_reducible assumption))); (case n => first | assumption | exact Ne.symm (by assumption) | kto_ne); (case c => kto_not); k_whole)))
  k_with "my compareOp Is int ref" => ((k_here; refine wpAny_is_other (by rfl) (by intro x; cases x) ?_))
  k_with "my compareOp IsNot int ref" => ((k_here; refine wpAny_isNot_other (by rfl) (by intro x; cases x) ?_))
  k_with "my compareOp Is ref int" => ((k_here; refine wpAny_is_other (by rfl) (by intro x; cases x) ?_))
  k_with "my compareOp IsNot ref int" => ((k_here; refine wpAny_isNot_other (by rfl) (by intro x; cases x) ?_))
  k_with "my newTuple" => (((rename RawTup => rt9); refine Stop.out ?_))
  k_with "my execs cons" => (((with_reducible show wpAny _ _ _ _ _ _); k_fold; refine wpAny_execs_cons ?_))
  k_with "my chain47" => (first | (with_reducible assumption) | ((with_reducible refine Nat.lt_trans (by assumption) ?_); walk_at "chain47"))
  k_with "my lt47" => (first | (with_reducible assumption) | (with_reducible exact Nat.lt_add_one _) | (with_reducible exact Nat.lt_trans (Nat.lt_add_one _) (Nat.lt_add_one _)) | ((fail_if_success (fail_if_success (with_reducible refine pkG (by assumption) ?_))); first | (with_reducible exact pk0 (by assumption)) | (with_reducible exact pk1 (by assumption)) | (with_reducible exact pk2 (by assumption)) | (with_reducible exact pk3 (by assumption)) | (with_reducible exact pk4 (by assumption)) | (with_reducible exact pk5 (by assumption)) | (with_reducible exact pk6 (by assumption)) | (with_reducible exact pk7 (by assumption)) | (with_reducible exact pk8 (by assumption)) | (with_reducible exact pk9 (by assumption)) | (with_reducible exact pk10 (by assumption)) | (with_reducible exact pk11 (by assumption)) | (with_reducible exact pk12 (by assumption)) | (with_reducible exact pk13 (by assumption)) | (with_reducible exact pk14 (by assumption)) | (with_reducible exact pk15 (by assumption)) | (with_reducible exact pk16 (by assumption)) | (with_reducible exact pk17 (by assumption)) | (with_reducible exact pk18 (by assumption)) | (with_reducible exact pk19 (by assumption))) | walk_at "chain47" | ((with_reducible refine Nat.lt_trans (Nat.lt_add_one _) ?_); walk_at "chain47") | ((with_reducible refine Nat.lt_trans (Nat.lt_trans (Nat.lt_add_one _) (Nat.lt_add_one _)) ?_); walk_at "chain47"))
  k_with "my in47a" => (first | (with_reducible exact pk0) | (with_reducible exact pk1) | (with_reducible exact pk2) | (with_reducible exact pk3) | (with_reducible exact pk4) | (with_reducible exact pk5) | (with_reducible exact pk6) | (with_reducible exact pk7))
  k_with "my in47b" => (first | (with_reducible exact pk8) | (with_reducible exact pk9) | (with_reducible exact pk10) | (with_reducible exact pk11) | (with_reducible exact pk12) | (with_reducible exact pk13) | (with_reducible exact pk14) | (with_reducible exact pk15))
  k_with "my in47c" => (first | (with_reducible exact pk16) | (with_reducible exact pk17) | (with_reducible exact pk18) | (with_reducible exact pk19) | (with_reducible exact pk20) | (with_reducible exact pk21) | (with_reducible exact pk22) | (with_reducible exact pk23))
  k_with "my in47d" => (first | (with_reducible exact pk24) | (with_reducible exact pk25) | (with_reducible exact pk26) | (with_reducible exact pk27) | (with_reducible exact pk28) | (with_reducible exact pk29) | (with_reducible exact pk30) | (with_reducible exact pk31))
  k_with "my in47e" => (first | (with_reducible exact pk32) | (with_reducible exact pk33) | (with_reducible exact pk34) | (with_reducible exact pk35) | (with_reducible exact pk36) | (with_reducible exact pk37) | (with_reducible exact pk38) | (with_reducible exact pk39))
  k_with "my pk47" => (((fail_if_success (fail_if_success (with_reducible refine pkG (by assumption) ?_))); first | ((fail_if_success (fail_if_success ((with_reducible refine pkI (by assumption) ?_); walk_at "in47a"))); first | (with_reducible exact pk0 (by assumption)) | (with_reducible exact pk1 (by assumption)) | (with_reducible exact pk2 (by assumption)) | (with_reducible exact pk3 (by assumption)) | (with_reducible exact pk4 (by assumption)) | (with_reducible exact pk5 (by assumption)) | (with_reducible exact pk6 (by assumption)) | (with_reducible exact pk7 (by assumption))) | ((fail_if_success (fail_if_success ((with_reducible refine pkI (by assumption) ?_); walk_at "in47b"))); first | (with_reducible exact pk8 (by assumption)) | (with_reducible exact pk9 (by assumption)) | (with_reducible exact pk10 (by assumption)) | (with_reducible exact pk11 (by assumption)) | (with_reducible exact pk12 (by assumption)) | (with_reducible exact pk13 (by assumption)) | (with_reducible exact pk14 (by assumption)) | (with_reducible exact pk15 (by assumption))) | ((fail_if_success (fail_if_success ((with_reducible refine pkI (by assumption) ?_); walk_at "in47c"))); first | (with_reducible exact pk16 (by assumption)) | (with_reducible exact pk17 (by assumption)) | (with_reducible exact pk18 (by assumption)) | (with_reducible exact pk19 (by assumption)) | (with_reducible exact pk20 (by assumption)) | (with_reducible exact pk21 (by assumption)) | (with_reducible exact pk22 (by assumption)) | (with_reducible exact pk23 (by assumption))) | ((fail_if_success (fail_if_success ((with_reducible refine pkI (by assumption) ?_); walk_at "in47d"))); first | (with_reducible exact pk24 (by assumption)) | (with_reducible exact pk25 (by assumption)) | (with_reducible exact pk26 (by assumption)) | (with_reducible exact pk27 (by assumption)) | (with_reducible exact pk28 (by assumption)) | (with_reducible exact pk29 (by assumption)) | (with_reducible exact pk30 (by assumption)) | (with_reducible exact pk31 (by assumption))) | ((fail_if_success (fail_if_success ((with_reducible refine pkI (by assumption) ?_); walk_at "in47e"))); first | (with_reducible exact pk32 (by assumption)) | (with_reducible exact pk33 (by assumption)) | (with_reducible exact pk34 (by assumption)) | (with_reducible exact pk35 (by assumption)) | (with_reducible exact pk36 (by assumption)) | (with_reducible exact pk37 (by assumption)) | (with_reducible exact pk38 (by assumption)) | (with_reducible exact pk39 (by assumption)))))
  k_with "my ne47" => (first | (with_reducible exact Nat.ne_of_lt (by assumption)) | (with_reducible exact Nat.ne_of_gt (by assumption)) | ((with_reducible refine Nat.ne_of_lt ?_); walk_at "pk47") | ((with_reducible refine Nat.ne_of_gt ?_); walk_at "pk47") | ((with_reducible refine Nat.ne_of_gt ?_); (with_reducible refine ltTail ?_ (by assumption)); walk_at "pk47") | ((with_reducible refine Nat.ne_of_lt ?_); (with_reducible refine ltTail ?_ (by assumption)); walk_at "pk47") | ((with_reducible refine Nat.ne_of_lt ?_); walk_at "lt47") | ((with_reducible refine Nat.ne_of_gt ?_); walk_at "lt47") | omega)
  k_with "my k_ne" => ((refine neN ?_; (try dsimp only); walk_at "ne47"))
  k_with "my neR47" => ((refine neN ?_; (try dsimp only); first | ((with_reducible refine Nat.ne_of_gt ?_); first | walk_at "pk47" | walk_at "chain47" | ((with_reducible refine ltTail ?_ (by assumption)); walk_at "pk47")) | k_ne))
  k_with "my k_all" => (first | exact List.forall_mem_nil _ | (refine allLt_ne ?_; (try dsimp only [AllLt]); with_reducible assumption) | (refine' List.forall_mem_cons.mpr ⟨?a, ?b⟩; (case a => k_ne); (case b => k_all)))
  k_with "my k_upd" => (first | (refine' Upd.head ?a; (case a => k_all)) | (refine' Upd.tail ?a ?b; (case a => walk_at "neR47"); (case b => k_upd)))
  k_with "my k_updF" => (first | (refine' UpdF.head ?a; (case a => k_all)) | (refine' UpdF.tail ?a ?b; (case a => walk_at "neR47"); (case b => k_updF)))
  exact True.intro
set_option maxHeartbeats 4000000 in
theorem tree_step {w : World} {mg mb : Str → Option Value} {mean : ExcName → Option Value} {s : Shared} {p l : Addr} {k : Nat} {tk : Tok} (hk : k < 4) (hp : PotAt s.heap p l) (hl : IntsAt s.heap l)
    (rec : ∀ s' t, PotAt s'.heap p l → IntsAt s'.heap l → Ct w mg mb mean (540 - 10 * k) (1400 - 100 * k) 229 [.ref p, .int k t] s' [p] (fun r h' => PotAt h' p l ∧ ∃ fl, TreeN (fun a => s'.heap.get? a = none) h' k r fl)) :
    Ct w mg mb mean (530 - 10 * k) (1300 - 100 * k) 229 [.ref p, .int (k + 1) tk] s [p] (fun r h' => PotAt h' p l ∧ ∃ fl, TreeN (fun a => s.heap.get? a = none) h' (k + 1) r fl) := by
  have hpl := pot_ne hp hl
  obtain ⟨at', ta, x, tx, n, ho, h0, hx0, hx1⟩ := hp
  unfold Ct
  k_fill
  intro gd cn cs a ccd cl outer A₀ base h₀ L m Q E B F X T hcs hX hret
  have N : News h₀ L s.heap [(p, potO l at' ta x tx n)] := fun q hq => by
    rw [List.mem_singleton.mp hq]; exact ⟨ho, (hX p (.head _)).2, (hX p (.head _)).1⟩
  walk_at "mine enter"
  intro g L' h₁ tk₁ cells FG F₁ N₁ Y BG XG TG l1 kG; k_lt l1; k_cells Y; (try simp only [List.cons_append, List.nil_append] at N₁); (try dsimp only)
  have hlg := hl.kept (X := [p]) kG (by simpa using Ne.symm hpl)
  k_steps
  iterate 2 (
    (rename Fr _ _ _ _ => Fo); (clear Fo); (rename Fr _ _ _ _ => Fe); (rename News _ _ _ _ => No); clear No; (rename News _ _ _ _ => Ne)
    refine hret _ _ _ (fun b o e n => Fe.keep b o (kG b o e n)) ⟨⟨_, _, _, _, _, Ne.get (List.Mem.tail _ (List.Mem.tail _ (List.Mem.head _))), ?_, ?_, ?_⟩, _, TreeN.int⟩ <;> assumption)
  refine Stop.mk ?_
  refine ListCompJ [p] (by with_unfolding_all rfl) (by decide) (by with_unfolding_all rfl) (by decide) (by with_unfolding_all rfl) (by intro _; with_unfolding_all rfl) ?_
  k_steps
  (rename Fr _ _ _ _ => Fe); (rename News _ _ _ _ => Ne); (rename IsRange _ _ _ _ _ _ _ _ => hR); rename (∀ b o, _ = some o → _ = some o) => kk
  refine rangeE [p] (fun N i ys h => PotAt h p l ∧ ∃ fls, Paired (TreeN N h k) ys fls) (fun a => a = p) (by rfl) hR (by assumption) (by omega) ?_ ?_ ?_ ?_ ?_ ?_
  · exact alive1 (Ne.get (List.Mem.tail _ (List.Mem.tail _ (List.Mem.head _))))
  · rintro b rfl; exact ⟨_, Ne.get (List.Mem.tail _ (List.Mem.tail _ (List.Mem.head _)))⟩
  · exact fun N h k => ⟨⟨_, _, _, _, _, k _ _ (Ne.get (List.Mem.tail _ (List.Mem.tail _ (List.Mem.head _)))), by assumption, by assumption, by assumption⟩, [], .nil⟩
  · rintro N N' i ys h h' ⟨a, fls, b⟩ c d
    exact ⟨a.of fun o e => d p o (.inr rfl) e, fls, paired_mono (fun _ _ => TreeN.mono fun a o n e => ⟨c a n, d a o (.inl n) e⟩) b⟩
  · rintro C N j tj ys s₃ m₃ hj ⟨hP, fls, hF⟩ hn hm hC hK hN hNX E'
    refine wpAny_tests_nil ?_
    rw [if_pos rfl]
    have F₃ := Fr.kept Fe hK (News.inX Ne (List.Mem.tail _ (List.Mem.tail _ (List.Mem.head _))))
    have Ne' := Ne
    have N₃ := News.two Ne hK (List.Mem.head _) (by simp only [List.mem_singleton]; k_ne) (List.Mem.tail _ (List.Mem.head _)) (by simp only [List.mem_singleton]; k_ne)
    clear Fe Ne
    k_steps
    refine Stop.mk ?_
    have ek' : (k : Int) + 1 - 1 = k := by omega
    rw [ek']
    have hX₃ := (News.inX Ne' (List.Mem.tail _ (List.Mem.tail _ (List.Mem.head _))))
    have C1 := @rec { heap := s₃.heap, gens := s₃.gens, drawn := s₃.drawn, toks := s₃.toks + 1 + 1, os := s₃.os } (s₃.toks + 1) hP (hlg.up F₃.keep)
    clear Ne'
    walk_at "mine ct"
    rintro r h' tk' F' hk' ⟨hP', fl, hT⟩
    refine ⟨_, _, rfl, hk', hP', fls ++ [fl], Paired.snoc (paired_mono (fun _ _ => TreeN.mono fun a o na e => ⟨na, hk' _ _ e (hNX _ na)⟩) hF) (TreeN.mono (fun a o na e => ⟨hN _ na ?_, e⟩) hT)⟩
    intro q
    rw [List.mem_singleton.mp q] at na
    obtain ⟨o, e⟩ := hP.obj
    rw [na] at e; cases e
  · intro D h' tk ys hD hpl hlen ⟨hP, fls, hF⟩ hK
    have hX' := (News.inX Ne (List.Mem.tail _ (List.Mem.tail _ (List.Mem.head _))))
    refine leaveK_ (Fr.kept Fe hK hX') News.nil fun _ _ => ?_
    have hout : Kept [p] s.heap _ := fun b o e n => Fe.keep b o (kG b o e n)
    have hfr : ∀ a, _ = none → s.heap.get? a = none := fun a => fresh_of hout (alive1 (Ne.get (List.Mem.tail _ (List.Mem.tail _ (List.Mem.head _)))))
    refine hret _ _ _ (hout.trans hK) ⟨hP, _, .inr ⟨D, ys, fls, rfl, hfr _ hD, hpl, by omega, rfl, paired_mono (fun _ _ => TreeN.mono fun a o na e => ⟨hfr _ na.1, e⟩) hF⟩⟩

set_option maxHeartbeats 4000000 in
theorem tree_zero {w : World} {mg mb : Str → Option Value} {mean : ExcName → Option Value} {s : Shared} {p l : Addr} {tk : Tok} (hp : PotAt s.heap p l) (hl : IntsAt s.heap l) :
    Ct w mg mb mean 540 1400 229 [.ref p, .int 0 tk] s [p] (fun r h' => PotAt h' p l ∧ ∃ fl, TreeN (fun a => s.heap.get? a = none) h' 0 r fl) := by
  have hpl := pot_ne hp hl
  obtain ⟨at', ta, x, tx, n, ho, h0, hx0, hx1⟩ := hp
  unfold Ct
  k_fill
  intro gd cn cs a ccd cl outer A₀ base h₀ L m Q E B F X T hcs hX hret
  have N : News h₀ L s.heap [(p, potO l at' ta x tx n)] := fun q hq => by
    rw [List.mem_singleton.mp hq]; exact ⟨ho, (hX p (.head _)).2, (hX p (.head _)).1⟩
  walk_at "mine enter"
  intro g L' h₁ tk₁ cells FG F₁ N₁ Y BG XG TG l1 kG; k_lt l1; k_cells Y; (try simp only [List.cons_append, List.nil_append] at N₁); (try dsimp only)
  have hlg := hl.kept (X := [p]) kG (by simpa using Ne.symm hpl)
  k_steps
  (rename Fr _ _ _ _ => Fo); (clear Fo); (rename Fr _ _ _ _ => Fe); (rename News _ _ _ _ => No); clear No; (rename News _ _ _ _ => Ne)
  refine hret _ _ _ (fun b o e n => Fe.keep b o (kG b o e n)) ⟨⟨_, _, _, _, _, Ne.get (List.Mem.tail _ (List.Mem.tail _ (List.Mem.head _))), ?_, ?_, ?_⟩, _, TreeN.int⟩ <;> assumption
theorem tree_ct {w : World} {mg mb : Str → Option Value} {mean : ExcName → Option Value} {p l : Addr} : ∀ (k : Nat), k ≤ 4 → ∀ (s : Shared) (tk : Tok), PotAt s.heap p l → IntsAt s.heap l →
    Ct w mg mb mean (540 - 10 * k) (1400 - 100 * k) 229 [.ref p, .int k tk] s [p] (fun r h' => PotAt h' p l ∧ ∃ fl, TreeN (fun a => s.heap.get? a = none) h' k r fl)
  | 0, _, s, tk, hp, hl => tree_zero hp hl
  | k + 1, hk, s, tk, hp, hl => by
    have := tree_step (w := w) (mg := mg) (mb := mb) (mean := mean) (tk := tk) (by omega : k < 4) hp hl fun s' t a b => tree_ct k (by omega) s' t a b
    have e1 : 540 - 10 * (k + 1) = 530 - 10 * k := by omega
    have e2 : 1400 - 100 * (k + 1) = 1300 - 100 * k := by omega
    rw [e1, e2]
    exact this
end

section
theorem calm9 : True := by
  w_top off
  exact True.intro
theorem words5 : True := by
  k_with "my exec For" => (refine Stop.out ?_)
  k_with "my exec For Name Name cons nil" => (refine Stop.out ?_)
  exact True.intro
set_option maxHeartbeats 4000000 in
theorem flat_leaf {w : World} {mg mb : Str → Option Value} {mean : ExcName → Option Value} {s : Shared} {i : Int} {t : Tok} :
    Ct w mg mb mean 590 1900 236 [.int i t] s [] (fun r h' => ∃ D ys, r = .ref D ∧ s.heap.get? D = none ∧ h'.PlainList D (List.toArray ys) ∧ IntsAre ys [i]) := by
  unfold Ct
  k_fill
  intro gd cn cs a ccd cl outer A₀ base h₀ L m Q E B F X T hcs hX hret
  have N : News h₀ L s.heap [] := News.nil
  walk_at "mine enter"
  intro g L' h₁ FG F₁ N₁ BG XG TG kG; (try dsimp only)
  k_steps
  (rename Fr _ _ _ _ => Fo); (clear Fo); (rename Fr _ _ _ _ => Fe); (rename News _ _ _ _ => No); clear No; (rename News _ _ _ _ => Ne)
  exact hret _ _ _ (fun b o e n => Fe.keep b o (kG b o e n)) ⟨_, [.int i t], rfl, GSub.fresh kG (by simp) (Ne.fresh (.head _)), ⟨_, Ne.get (.head _)⟩, .cons _ _ .nil⟩
set_option maxHeartbeats 4000000 in
theorem flat_node {w : World} {mg mb : Str → Option Value} {mean : ExcName → Option Value} {s : Shared} {k : Nat} {b : Addr} {its : List Value} {fls : List (List Int)} {Nd : Addr → Prop} (hk : k < 4) (hl : s.heap.PlainList b (List.toArray its)) (hi : its.length ≤ 3) (hT : Paired (TreeN Nd s.heap k) its fls)
    (rec : ∀ s' v fl, TreeN Nd s'.heap k v fl → Ct w mg mb mean (590 - 10 * k) (1900 - 100 * k) 236 [v] s' [] (fun r h' => ∃ D ys, r = .ref D ∧ s'.heap.get? D = none ∧ h'.PlainList D (List.toArray ys) ∧ IntsAre ys fl)) :
    Ct w mg mb mean (580 - 10 * k) (1800 - 100 * k) 236 [.ref b] s [] (fun r h' => ∃ D ys, r = .ref D ∧ s.heap.get? D = none ∧ h'.PlainList D (List.toArray ys) ∧ IntsAre ys fls.flatten) := by
  unfold Ct
  k_fill
  intro gd cn cs a ccd cl outer A₀ base h₀ L m Q E B F X T hcs hX hret
  have N : News h₀ L s.heap [] := News.nil
  walk_at "mine enter"
  intro g L' h₁ FG F₁ N₁ BG XG TG kG; (try dsimp only)
  have hlg := hl.isList.at fun o e => kG _ _ e (by simp)
  k_steps
  refine Stop.mk ?_
  refine ForJ (by with_unfolding_all rfl) (by with_unfolding_all rfl) (by intro _; with_unfolding_all rfl) ?_
  k_steps
  (rename Fr _ _ _ _ => Fe); (rename News _ _ _ _ => Ne)
  obtain ⟨mE, I, hmE, hId, hI1, hI2, hI3, FE⟩ := Fr.name Fe
  clear Fe
  refine forList (fun i m h => (∀ b o, g.get? b = some o → h.get? b = some o) ∧ ∃ D ys n u, m = (fun z => if z = Str.ofString "own" then u else if z = Str.ofString "found" then some (.ref D) else mE z) ∧ News g L' h [(D, listOf (List.toArray ys) n)] ∧ D ≠ I ∧ IntsAre ys (fls.take i).flatten) hId (by rfl) (hlg.at fun o e => FE.keep _ _ e) ?_ FE.ns ?_ ?_ ?_ ?_
  · rintro rfl; obtain ⟨o, e, _⟩ := hlg; exact Nat.lt_irrefl _ (Nat.lt_of_lt_of_le (Heap.lt_size e) FE.above)
  · intro h k
    refine ⟨fun b o e => k b o (FE.keep b o e), _, [], 0, mE (Str.ofString "own"), ?_, fun p hp => ⟨k _ _ (Ne p hp).1, (Ne p hp).2⟩, hI3 _ _ (Ne.get (.head _)), by simpa using IntsAre.nil⟩
    funext z
    by_cases h1 : z = Str.ofString "own"
    · subst h1; simp
    · simp only [if_neg h1]
      by_cases h2 : z = Str.ofString "found"
      · subst h2; simp [hmE]
      · simp [h2]
  · rintro i m h h' ⟨k, D, ys, n, u, hm, hN, hD, hY⟩ kk
    exact ⟨fun b o e => Fr.ground FE hI1 kk e (k b o e), D, ys, n, u, hm, fun p hp => by
      rw [List.mem_singleton.mp hp]; exact ⟨kk _ _ (hN _ (.head _)).2.1 hD (hN _ (.head _)).1, (hN _ (.head _)).2⟩, hD, hY⟩
  · rintro i v m₁ s₃ E' hv ⟨kk, D, ys, n, u, rfl, hN, hD, hY⟩ hn ⟨oI, eI⟩ _
    simp only [upd_same] at hn
    have F₃ : Fr g L' s₃.heap _ := ⟨hn, kk, FE.above⟩
    obtain ⟨fl, hfl, hTv⟩ := Paired.get hT hv
    have N₃ : News g L' s₃.heap [(_, oI), (D, listOf (List.toArray ys) n)] := fun p hp => by
      rcases List.mem_cons.mp hp with rfl | hp
      · exact ⟨eI, hI2, hI1⟩
      · exact hN p hp
    clear FE Ne
    k_steps
    refine Stop.mk ?_
    have hTv' : TreeN Nd s₃.heap k v fl := TreeN.mono (fun a o n e => ⟨n, kk _ _ (kG _ _ e (by simp))⟩) hTv
    have C1 := @rec { heap := s₃.heap, gens := s₃.gens, drawn := s₃.drawn, toks := s₃.toks, os := s₃.os } v fl hTv'
    walk_at "mine ct"
    rintro r h' tk' F' hk' ⟨R, zs, rfl, hR, ⟨nR, hRp⟩, hZ⟩
    have N₄ := News.also (News.all N₃ hk') F₃ hR hRp
    have e27 := pow_le hk
    have len1 : ys.length ≤ 81 := by
      have a1 := IntsAre.length hY
      have a2 := take_len fls i
      have a3 := flat_len hT
      have a4 : its.length * 3 ^ k ≤ 3 * 27 := Nat.mul_le_mul hi e27
      omega
    have len2 : zs.length ≤ 81 := by
      have a1 := IntsAre.length hZ
      have a2 := TreeN.len hTv
      omega
    clear N₃ hN F₃
    k_steps
    (rename Fr g _ _ _ => Fe); (rename News g _ _ _ => Ne)
    refine ⟨_, _, _, rfl, Fe.ns, ?_, Fe.keep, _, _, _, some v, ?_, fun p hp => Ne p ((List.mem_singleton.mp hp) ▸ (List.Mem.head _)), ?_, ?_⟩
    · intro c hc o e
      rcases List.mem_cons.mp hc with rfl | hc
      · rw [eI] at e; cases e; exact Ne.get (List.Mem.tail _ (List.Mem.tail _ (List.Mem.head _)))
      · rw [List.mem_singleton.mp hc] at e ⊢
        obtain ⟨ob, eb, _⟩ := hlg
        rw [kk _ _ eb] at e; cases e; exact Fe.keep _ _ eb
    · funext z
      by_cases h1 : z = Str.ofString "own"
      · subst h1; with_unfolding_all rfl
      · simp only [if_neg h1]
        by_cases h2 : z = Str.ofString "found"
        · subst h2; with_unfolding_all rfl
        · simp [h2]
    · exact Nat.ne_of_gt (Heap.lt_size (hk' _ _ eI (by simp)))
    · have e : (fls.take (i + 1)).flatten = (fls.take i).flatten ++ fl := by rw [List.take_add_one, hfl]; simp
      rw [e]; exact IntsAre.app hY hZ
  · rintro h' tk m' hn' ⟨kk, D, ys, n, u, rfl, hN, hD, hY⟩
    have F₃ : Fr g L' h' _ := ⟨hn', kk, FE.above⟩
    clear FE Ne
    k_steps
    refine hret _ _ _ (fun b o e n => kk b o (kG b o e n)) ⟨D, ys, rfl, GSub.fresh kG (by simp) (News.fresh hN (List.Mem.head _)), ⟨n, News.get hN (List.Mem.head _)⟩, ?_⟩
    rw [List.take_of_length_le (by rw [Paired.length hT]; exact Nat.le_refl _)] at hY
    exact hY
theorem flat_ct {w : World} {mg mb : Str → Option Value} {mean : ExcName → Option Value} {Nd : Addr → Prop} : ∀ (k : Nat), k ≤ 4 → ∀ (s : Shared) (v : Value) (fl : List Int), TreeN Nd s.heap k v fl →
    Ct w mg mb mean (590 - 10 * k) (1900 - 100 * k) 236 [v] s [] (fun r h' => ∃ D ys, r = .ref D ∧ s.heap.get? D = none ∧ h'.PlainList D (List.toArray ys) ∧ IntsAre ys fl)
  | 0, _, s, v, fl, ⟨i, t, hv, e⟩ => by subst e; subst hv; exact flat_leaf
  | k + 1, hk, s, v, fl, hT => by
    have e1 : 590 - 10 * (k + 1) = 580 - 10 * k := by omega
    have e2 : 1900 - 100 * (k + 1) = 1800 - 100 * k := by omega
    rw [e1, e2]
    rcases hT with ⟨i, t, rfl, rfl⟩ | ⟨a, ys, fls, rfl, n, hl, l, rfl, r⟩
    · exact Ct.mono flat_leaf (by omega) (by omega)
    · exact flat_node (by omega : k < 4) hl l r fun s' v fl x => flat_ct k (by omega) s' v fl x
end

section
theorem calm10 : True := by
  w_top off
  exact True.intro
theorem words6 : True := by
  k_with_none
  k_with "my k_room" => (first | exact Nat.le_of_ble_eq_true rfl | (simp only [depth_under_make, depth_under_kw, depth_in1, depth_deeper, depth_caller, recursionLimit] at *; omega))
  k_with "my eval ListComp" => (((fail_if_success (rename LibOk => x9)); refine Stop.out ?_))
  k_with "my exec Assign cons ListComp" => (((fail_if_success (rename LibOk => x9)); refine Stop.out ?_))
  k_with "my mine enter" => ((
  refine wpAny_call ?_
  first
  | (refine' code_defG ?k1 ?k2 ?k3 ?k4 ?k5 ?kA ?kF ?kK ?k6 ?k7 ?k8 ?k9 ?kB ?_ ?c2 ?c3 ?c4 ?c5; (case kA => exact rfl); (case kF => exact rfl); (case kK => first | exact rfl | assumption); (case k1 => k_asm); (case k2 => k_asm); (case k3 => k_asm); (case k4 => k_asm); (case k5 => k_asm); (case k6 => k_is); (case k7 => k_is); (case k8 => k_room); (case k9 => first | exact BindsTo.of_eq rfl | exact binds_K (by k_in) rfl (by k_is) rfl rfl rfl | fail "mine enter: binds"); (case c5 => decide); (case kB => exact locs rfl); (case c2 => exact rfl); (case c3 => exact rfl); (case c4 => exact rfl); k_whole)
  | (refine' code_defCG ?k1 ?k2 ?k3 ?k4 ?k5 ?kA ?kF ?kK ?k6 ?k7 ?k8 ?k9 ?kB ?kD ?_ ?c2 ?c3 ?c4; (case kA => exact rfl); (case kF => exact rfl); (case kK => first | exact rfl | assumption); (case k1 => k_asm); (case k2 => k_asm); (case k3 => k_asm); (case k4 => k_asm); (case k5 => k_asm); (case k6 => k_is); (case k7 => k_is); (case k8 => k_room); (case k9 => first | exact BindsTo.of_eq rfl | exact binds_K (by k_in) rfl (by k_is) rfl rfl rfl | fail "mine enter: binds"); (case kB => exact rfl); (case kD => decide +kernel); (case c2 => exact rfl); (case c3 => exact rfl); (case c4 => exact rfl); k_whole)))
  k_with "my mine dip" => ((k_here; k_dflt (refine' use_dip ?hh ?hd ?hu ?hA ?B ?F ?K ?T ?hcs ?N ?V ?h0 ?hx0 ?hx1 ?hl ?hk ?_; (case hh => exact rfl); (case hA => exact rfl); (case hd => first | exact Nat.le_of_ble_eq_true rfl | (simp only [depth_in1, depth_deeper]; omega)); (case hu => first | exact Nat.le_of_ble_eq_true rfl | (simp only [units_in1, units_deeper]; omega)); (case B => k_asm); (case F => k_asm); (case K => k_asm); (case T => k_asm); (case hcs => first | exact rfl | assumption); (case N => k_asm); (case V => k_updF); (case h0 => assumption); (case hx0 => assumption); (case hx1 => assumption); (case hl => (refine' IntsAt.up ?ha (Fr.keep ?hb); (case hb => k_asm); (case ha => k_asm))); (case hk => decide); k_whole); intro i' t' at' ta' x' tx' n' h' tk' b0 b1 b2 b3 b4 F' N'; (try dsimp only at N'); (try k_sweep)))
  k_with "my call ref" => (first | walk_at "mine dip" | ((with_reducible show wpAny _ _ (call (Value.ref 168) _) _ _ _); refine Stop.out ?_) | ((with_reducible show wpAny _ _ (call (Value.ref 188) _) _ _ _); refine Stop.out ?_) | ((with_reducible show wpAny _ _ (call (Value.ref 224) _) _ _ _); refine Stop.out ?_) | ((with_reducible show wpAny _ _ (call (Value.ref 229) _) _ _ _); refine Stop.out ?_) | ((with_reducible show wpAny _ _ (call (Value.ref 236) _) _ _ _); refine Stop.out ?_) | ((with_reducible show wpAny _ _ (call (Value.ref 77) _) _ _ _); refine Stop.out ?_) | ((with_reducible show wpAny _ _ (call (Value.ref 65) _) _ _ _); refine Stop.out ?_) | ((with_reducible show wpAny _ _ (call (Value.ref 241) _) _ _ _); refine Stop.out ?_) | ((with_reducible show wpAny _ _ (call (Value.ref 246) _) _ _ _); refine Stop.out ?_) | ((with_reducible show wpAny _ _ (call (Value.ref 253) _) _ _ _); refine Stop.out ?_) | ((with_reducible show wpAny _ _ (call (Value.ref 105) _) _ _ _); refine Stop.out ?_))
  k_with "my mine ct" => (((rename Ct _ _ _ _ _ _ _ _ _ _ _ => hCt); k_dflt (refine' use_ct hCt ?hh ?hd ?hu ?hA ?B ?F ?K ?T ?hcs ?hX ?_; (case hh => exact rfl); (case hA => exact rfl); (case hd => first | exact Nat.le_of_ble_eq_true rfl | (simp only [depth_in1, depth_deeper]; omega)); (case hu => first | exact Nat.le_of_ble_eq_true rfl | (simp only [units_in1, units_deeper]; omega)); (case B => k_asm); (case F => k_asm); (case K => k_asm); (case T => k_asm); (case hcs => first | exact rfl | assumption); (case hX => first | exact News.inX (by k_asm) (by k_mem) | assumption | (intro x hx; cases hx)))))
  k_with "my storeName" => ((k_here; k_dflt (first | (refine' stK ?F ?N ?_ ?a ?b; (case F => k_asm); (case N => k_asm); (case a => rfl); (case b => rfl); k_whole; intro h' F' N' kS'; (try k_sweep)) | (refine' stC ?F ?N ?c ?U ?d ?_ ?a ?b; (case a => rfl); (case b => rfl); (case F => k_asm); (case N => k_asm); (case c => rfl); (case U => k_updF); (case d => k_asm); k_whole; intro h' o' F' N' d' kS'; (try dsimp only at N'); (try k_sweep)))))
  k_with "my compareOp Is ref ref" => ((k_here; (with_reducible show wpAny _ _ (compareOp CmpOp.Is (Value.ref _) (Value.ref _)) _ _ _); k_dflt (refine' kto_is ?a ?b ?n ?c ?_; (case a => first | kto_obj | (refine' gr_get ?F ?e; (case F => k_asm); (case e => with_reducible assumption))); (case b => first | kto_obj | (refine' gr_get ?F ?e; (case F => k_asm); (case e => with_reducible assumption))); (case n => first | assumption | exact Ne.symm (by assumption) | kto_ne); (case c => kto_not); k_whole)))
  k_with "my compareOp IsNot ref ref" => ((k_here; (with_reducible show wpAny _ _ (compareOp CmpOp.IsNot (Value.ref _) (Value.ref _)) _ _ _); k_dflt (refine' kto_isnot ?a ?b ?n ?c ?_; (case a => first | kto_obj | (refine' gr_get ?F ?e; (case F => k_asm); (case e => with_reducible assumption))); (case b => first | kto_obj | (refine' gr_get ?F ?e; (case F => k_asm); (case e => with_reducible assumption))); (case n => first | assumption | exact Ne.symm (by assumption) | kto_ne); (case c => kto_not); k_whole)))
  k_with "my compareOp Is int ref" => ((k_here; refine wpAny_is_other (by rfl) (by intro x; cases x) ?_))
  k_with "my compareOp IsNot int ref" => ((k_here; refine wpAny_isNot_other (by rfl) (by intro x; cases x) ?_))
  k_with "my compareOp Is ref int" => ((k_here; refine wpAny_is_other (by rfl) (by intro x; cases x) ?_))
  k_with "my compareOp IsNot ref int" => ((k_here; refine wpAny_isNot_other (by rfl) (by intro x; cases x) ?_))
  k_with "my newTuple" => (((rename RawTup => rt9); refine Stop.out ?_))
  k_with "my execs cons" => (((with_reducible show wpAny _ _ _ _ _ _); k_fold; refine wpAny_execs_cons ?_))
  k_with "my chain47" => (first | (with_reducible assumption) | ((with_reducible refine Nat.lt_trans (by assumption) ?_); walk_at "chain47"))
  k_with "my lt47" => (first | (with_reducible assumption) | (with_reducible exact Nat.lt_add_one _) | (with_reducible exact Nat.lt_trans (Nat.lt_add_one _) (Nat.lt_add_one _)) | ((fail_if_success (fail_if_success (with_reducible refine pkG (by assumption) ?_))); first | (with_reducible exact pk0 (by assumption)) | (with_reducible exact pk1 (by assumption)) | (with_reducible exact pk2 (by assumption)) | (with_reducible exact pk3 (by assumption)) | (with_reducible exact pk4 (by assumption)) | (with_reducible exact pk5 (by assumption)) | (with_reducible exact pk6 (by assumption)) | (with_reducible exact pk7 (by assumption)) | (with_reducible exact pk8 (by assumption)) | (with_reducible exact pk9 (by assumption)) | (with_reducible exact pk10 (by assumption)) | (with_reducible exact pk11 (by assumption)) | (with_reducible exact pk12 (by assumption)) | (with_reducible exact pk13 (by assumption)) | (with_reducible exact pk14 (by assumption)) | (with_reducible exact pk15 (by assumption)) | (with_reducible exact pk16 (by assumption)) | (with_reducible exact pk17 (by assumption)) | (with_reducible exact pk18 (by assumption)) | (with_reducible exact pk19 (by assumption))) | walk_at "chain47" | ((with_reducible refine Nat.lt_trans (Nat.lt_add_one _) ?_); walk_at "chain47") | ((with_reducible refine Nat.lt_trans (Nat.lt_trans (Nat.lt_add_one _) (Nat.lt_add_one _)) ?_); walk_at "chain47"))
  k_with "my in47a" => (first | (with_reducible exact pk0) | (with_reducible exact pk1) | (with_reducible exact pk2) | (with_reducible exact pk3) | (with_reducible exact pk4) | (with_reducible exact pk5) | (with_reducible exact pk6) | (with_reducible exact pk7))
  k_with "my in47b" => (first | (with_reducible exact pk8) | (with_reducible exact pk9) | (with_reducible exact pk10) | (with_reducible exact pk11) | (with_reducible exact pk12) | (with_reducible exact pk13) | (with_reducible exact pk14) | (with_reducible exact pk15))
  k_with "my in47c" => (first | (with_reducible exact pk16) | (with_reducible exact pk17) | (with_reducible exact pk18) | (with_reducible exact pk19) | (with_reducible exact pk20) | (with_reducible exact pk21) | (with_reducible exact pk22) | (with_reducible exact pk23))
  k_with "my in47d" => (first | (with_reducible exact pk24) | (with_reducible exact pk25) | (with_reducible exact pk26) | (with_reducible exact pk27) | (with_reducible exact pk28) | (with_reducible exact pk29) | (with_reducible exact pk30) | (with_reducible exact pk31))
  k_with "my in47e" => (first | (with_reducible exact pk32) | (with_reducible exact pk33) | (with_reducible exact pk34) | (with_reducible exact pk35) | (with_reducible exact pk36) | (with_reducible exact pk37) | (with_reducible exact pk38) | (with_reducible exact pk39))
  k_with "my pk47" => (((fail_if_success (fail_if_success (with_reducible refine pkG (by assumption) ?_))); first | ((fail_if_success (fail_if_success ((with_reducible refine pkI (by assumption) ?_); walk_at "in47a"))); first | (with_reducible exact pk0 (by assumption)) | (with_reducible exact pk1 (by assumption)) | (with_reducible exact pk2 (by assumption)) | (with_reducible exact pk3 (by assumption)) | (with_reducible exact pk4 (by assumption)) | (with_reducible exact pk5 (by assumption)) | (with_reducible exact pk6 (by assumption)) | (with_reducible exact pk7 (by assumption))) | ((fail_if_success (fail_if_success ((with_reducible refine pkI (by assumption) ?_); walk_at "in47b"))); first | (with_reducible exact pk8 (by assumption)) | (with_reducible exact pk9 (by assumption)) | (with_reducible exact pk10 (by assumption)) | (with_reducible exact pk11 (by assumption)) | (with_reducible exact pk12 (by assumption)) | (with_reducible exact pk13 (by assumption)) | (with_reducible exact pk14 (by assumption)) | (with_reducible exact pk15 (by assumption))) | ((fail_if_success (fail_if_success ((with_reducible refine pkI (by assumption) ?_); walk_at "in47c"))); first | (with_reducible exact pk16 (by assumption)) | (with_reducible exact pk17 (by assumption)) | (with_reducible exact pk18 (by assumption)) | (with_reducible exact pk19 (by assumption)) | (with_reducible exact pk20 (by assumption)) | (with_reducible exact pk21 (by assumption)) | (with_reducible exact pk22 (by assumption)) | (with_reducible exact pk23 (by assumption))) | ((fail_if_success (fail_if_success ((with_reducible refine pkI (by assumption) ?_); walk_at "in47d"))); first | (with_reducible exact pk24 (by assumption)) | (with_reducible exact pk25 (by assumption)) | (with_reducible exact pk26 (by assumption)) | (with_reducible exact pk27 (by assumption)) | (with_reducible exact pk28 (by assumption)) | (with_reducible exact pk29 (by assumption)) | (with_reducible exact pk30 (by assumption)) | (with_reducible exact pk31 (by assumption))) | ((fail_if_success (fail_if_success ((with_reducible refine pkI (by assumption) ?_); walk_at "in47e"))); first | (with_reducible exact pk32 (by assumption)) | (with_reducible exact pk33 (by assumption)) | (with_reducible exact pk34 (by assumption)) | (with_reducible exact pk35 (by assumption)) | (with_reducible exact pk36 (by assumption)) | (with_reducible exact pk37 (by assumption)) | (with_reducible exact pk38 (by assumption)) | (with_reducible exact pk39 (by assumption)))))
  k_with "my ne47" => (first | (with_reducible exact Nat.ne_of_lt (by assumption)) | (with_reducible exact Nat.ne_of_gt (by assumption)) | ((with_reducible refine Nat.ne_of_lt ?_); walk_at "pk47") | ((with_reducible refine Nat.ne_of_gt ?_); walk_at "pk47") | ((with_reducible refine Nat.ne_of_gt ?_); (with_reducible refine ltTail ?_ (by assumption)); walk_at "pk47") | ((with_reducible refine Nat.ne_of_lt ?_); (with_reducible refine ltTail ?_ (by assumption)); walk_at "pk47") | ((with_reducible refine Nat.ne_of_lt ?_); walk_at "lt47") | ((with_reducible refine Nat.ne_of_gt ?_); walk_at "lt47") | omega)
  k_with "my k_ne" => ((refine neN ?_; (try dsimp only); walk_at "ne47"))
  k_with "my neR47" => ((refine neN ?_; (try dsimp only); first | ((with_reducible refine Nat.ne_of_gt ?_); first | walk_at "pk47" | walk_at "chain47" | ((with_reducible refine ltTail ?_ (by assumption)); walk_at "pk47")) | k_ne))
  k_with "my k_all" => (first | exact List.forall_mem_nil _ | (refine allLt_ne ?_; (try dsimp only [AllLt]); with_reducible assumption) | (refine' List.forall_mem_cons.mpr ⟨?a, ?b⟩; (case a => k_ne); (case b => k_all)))
  k_with "my k_upd" => (first | (refine' Upd.head ?a; (case a => k_all)) | (refine' Upd.tail ?a ?b; (case a => walk_at "neR47"); (case b => k_upd)))
  k_with "my k_updF" => (first | (refine' UpdF.head ?a; (case a => k_all)) | (refine' UpdF.tail ?a ?b; (case a => walk_at "neR47"); (case b => k_updF)))
  exact True.intro
theorem two_news {h₀ h : Heap} {L a b : Addr} {o o' : Obj} (e1 : h.get? a = some o) (e2 : h.get? b = some o') (a1 : a ≠ L) (b1 : b ≠ L) (a2 : h₀.get? a = none) (b2 : h₀.get? b = none) : News h₀ L h [(a, o), (b, o')] := fun q hq => by
  rcases List.mem_cons.mp hq with rfl | hq
  · exact ⟨e1, a1, a2⟩
  · rw [List.mem_singleton.mp hq]; exact ⟨e2, b1, b2⟩
theorem Fr.new {h₀ h : Heap} {L a : Addr} {m : Str → Option Value} (F : Fr h₀ L h m) (e : h.get? a = none) : a ≠ L ∧ h₀.get? a = none := by
  refine ⟨?_, ?_⟩
  · rintro rfl; obtain ⟨o, q⟩ := ns_alive F.ns; rw [e] at q; cases q
  · cases q : h₀.get? a with
    | none => rfl
    | some o => rw [F.keep _ _ q] at e; cases e
set_option maxHeartbeats 4000000 in
theorem cons_ct {w : World} {mg mb : Str → Option Value} {mean : ExcName → Option Value} {s : Shared} {x y : Value} :
    Ct w mg mb mean 700 3000 65 [x, y] s [] (fun r h' => ∃ c d t1 t2, r = .ref c ∧ s.heap.get? c = none ∧ s.heap.get? d = none ∧ h'.get? c = some (instObj 65 d) ∧ h'.get? d = some (dictOf [⟨PyData.keyHash w.params (Str.ofString "car"), .str (Str.ofString "car") t1, x⟩, ⟨PyData.keyHash w.params (Str.ofString "cdr"), .str (Str.ofString "cdr") t2, y⟩] 2)) := by
  unfold Ct
  k_fill
  intro gd cn cs a ccd cl outer A₀ base h₀ L m Q E B F X T hcs hX hret
  refine' make_raw (C := 65) (fI := 62) (X.keeps F.keep) ?k1 ?k2 ?k3 ?_
  (case k1 => k_is); (case k2 => k_is); (case k3 => k_is)
  intro c d h' k ec ed fc fd hlt; k_lt2 hlt
  have F' : Fr h₀ L h' m := Fr.kept F k (by simp)
  have N := two_news ec ed (Fr.new F fc).1 (Fr.new F fd).1 (Fr.new F fc).2 (Fr.new F fd).2
  refine' code_defG ?k1 ?k2 ?k3 ?k4 ?k5 ?kA ?kF ?kK ?k6 ?k7 ?k8 ?k9 ?kB ?_ ?c2 ?c3 ?c4 ?c5; (case kA => exact rfl); (case kF => exact rfl); (case kK => first | exact rfl | assumption); (case k1 => k_asm); (case k2 => exact F'); (case k3 => k_asm); (case k4 => exact N); (case k5 => k_asm); (case k6 => k_is); (case k7 => k_is); (case k8 => k_room); (case k9 => first | exact BindsTo.of_eq rfl | exact binds_K (by k_in) rfl (by k_is) rfl rfl rfl | fail "mine enter: binds"); (case c5 => decide); (case kB => exact locs rfl); (case c2 => exact rfl); (case c3 => exact rfl); (case c4 => exact rfl)
  intro g L' h₁ FG F₁ N₁ BG XG TG kG; (try dsimp only)
  k_steps
  (rename Fr g _ _ _ => Fe); (rename News g _ _ _ => Ne)
  refine hret _ _ _ (fun b o e n => Fe.keep b o (kG b o (k b o e n) ?_)) ⟨c, d, _, _, rfl, fc, fd, Ne.get (List.Mem.head _), Ne.get (List.Mem.tail _ (List.Mem.head _))⟩
  intro q
  rcases List.mem_cons.mp q with rfl | q
  · rw [fc] at e; cases e
  · rw [List.mem_singleton.mp q, fd] at e; cases e
end

section
theorem calm11 : True := by
  w_top off
  exact True.intro
def ChainAt (w : World) (N : Addr → Prop) (h : Heap) : List Value → Value → Prop
  | [], v => v = .ref 44
  | x :: r, v => ∃ c d tl t1 t2, v = .ref c ∧ N c ∧ N d ∧ h.get? c = some (instObj 65 d) ∧ h.get? d = some (dictOf [⟨PyData.keyHash w.params (Str.ofString "car"), .str (Str.ofString "car") t1, x⟩, ⟨PyData.keyHash w.params (Str.ofString "cdr"), .str (Str.ofString "cdr") t2, tl⟩] 2) ∧ ChainAt w N h r tl
theorem words7 : True := by
  k_with "my exec For" => (refine Stop.out ?_)
  k_with "my exec For Name Name cons nil" => (refine Stop.out ?_)
  k_with "my exec For Name Call cons nil" => (refine Stop.out ?_)
  k_with "my subscriptTail" => ((k_here; (with_reducible show wpAny _ _ (subscriptTail _ _ (Value.ref _) (Value.int _ _)) _ _ _); (with_unfolding_all refine' item_ground ?k0 ?k1 ?k2 ?k3 ?k4 ?_ ?k6; (case k1 => assumption); (case k0 => k_asm); (case k4 => assumption); (case k2 => omega); (case k3 => omega); (case k6 => with_unfolding_all rfl); k_whole)))
  k_with "my call builtin:len" => ((k_here; (with_reducible show wpAny _ _ (call (Value.builtin "len") [Value.ref _]) _ _ _); k_dflt (refine' len_ground ?k0 ?k1 ?k2 ?_; (case k1 => assumption); (case k0 => k_asm); (case k2 => omega); k_whole)))
  exact True.intro
theorem ChainAt.mono {w : World} {N N' : Addr → Prop} {h h' : Heap} (hN : ∀ a o, N a → h.get? a = some o → N' a ∧ h'.get? a = some o) : ∀ {l : List Value} {v : Value}, ChainAt w N h l v → ChainAt w N' h' l v
  | [], _, x => x
  | _ :: _, _, ⟨c, d, tl, t1, t2, e, nc, nd, ec, ed, r⟩ => ⟨c, d, tl, t1, t2, e, (hN _ _ nc ec).1, (hN _ _ nd ed).1, (hN _ _ nc ec).2, (hN _ _ nd ed).2, ChainAt.mono hN r⟩
theorem ChainAt.handed {w : World} {N : Addr → Prop} {h : Heap} : ∀ {l : List Value} {v : Value}, ChainAt w N h l v → ∃ a, v = .ref a
  | [], _, x => ⟨_, x⟩
  | _ :: _, _, ⟨c, _, _, _, _, e, _⟩ => ⟨c, e⟩
set_option maxHeartbeats 4000000 in
theorem lo_ct {w : World} {mg mb : Str → Option Value} {mean : ExcName → Option Value} {s : Shared} {q : Addr} {its : List Value} {n : Nat} (hq : s.heap.get? q = some (listOf (List.toArray its) n)) (hn : its.length ≤ 10) :
    Ct w mg mb mean 590 1900 77 [.ref q] s [] (fun r h' => ChainAt w (fun a => s.heap.get? a = none) h' its r) := by
  unfold Ct
  k_fill
  intro gd cn cs a ccd cl outer A₀ base h₀ L m Q E B F X T hcs hX hret
  have N : News h₀ L s.heap [] := News.nil
  walk_at "mine enter"
  intro g L' h₁ FG F₁ N₁ BG XG TG kG; (try dsimp only)
  have hlg : g.IsList q its.toArray := ⟨_, kG _ _ hq (by simp), rfl, _, rfl⟩
  k_steps
  refine Stop.mk ?_
  refine ForJ (by with_unfolding_all rfl) (by with_unfolding_all rfl) (by intro _; with_unfolding_all rfl) ?_
  k_steps
  (rename Fr _ _ _ _ => Fe); (rename News _ _ _ _ => Ne); (rename IsRange _ _ _ _ _ _ _ _ => hR)
  obtain ⟨mE, I, hmE, hId, hI1, hI2, hI3, FE⟩ := Fr.name Fe
  clear Fe
  refine forRangeG (fun i m h => (∀ b o, g.get? b = some o → h.get? b = some o) ∧ ∃ v u, m = (fun z => if z = Str.ofString "place" then u else if z = Str.ofString "found" then some (.ref v) else mE z) ∧ ChainAt w (fun a => g.get? a = none ∧ a ≠ L' ∧ a ≠ I) h (its.drop (its.length - i)) (.ref v)) hId (by rfl) hR (down_range (by omega)).1 (down_range (by omega)).2 FE.ns ?_ ?_ ?_ ?_
  · intro h k
    refine ⟨fun b o e => k b o (FE.keep b o e), 44, mE (Str.ofString "place"), ?_, by simp [ChainAt]⟩
    funext z
    by_cases h1 : z = Str.ofString "place"
    · subst h1; simp
    · simp only [if_neg h1]
      by_cases h2 : z = Str.ofString "found"
      · subst h2; rw [hmE]; with_unfolding_all rfl
      · simp [h2]
  · rintro i m h h' ⟨k, v, u, hm, hc⟩ kk
    exact ⟨fun b o e => Fr.ground FE hI1 kk e (k b o e), v, u, hm, ChainAt.mono (fun a o na e => ⟨na, kk a o na.2.1 na.2.2 e⟩) hc⟩
  · rintro j tj m₁ s₃ E' hj ⟨kk, v, u, rfl, hC⟩ hn' ⟨oI, eI⟩ _
    simp only [upd_same] at hn'
    have F₃ : Fr g L' s₃.heap _ := ⟨hn', kk, FE.above⟩
    have N₃ : News g L' s₃.heap [(I, oI)] := fun p hp => by
      rw [List.mem_singleton.mp hp]; exact ⟨eI, hI2, hI1⟩
    obtain ⟨x, hx⟩ : ∃ x, its[((its.length : Int) - 1 + (j : Nat) * (-1)).toNat]? = some x := ⟨_, List.getElem?_eq_getElem (by omega)⟩
    clear FE Ne
    subst hmE
    k_steps
    refine Stop.mk ?_
    have C1 := @cons_ct w mg mb mean { heap := s₃.heap, gens := s₃.gens, drawn := s₃.drawn, toks := s₃.toks, os := s₃.os } x (.ref v)
    walk_at "mine ct"
    rintro r h' tk' F' hk' ⟨c, d, t1, t2, rfl, fc, fd, ec, ed⟩
    have nc := Fr.new F₃ fc
    have nd := Fr.new F₃ fd
    have N₄ : News g L' h' [(I, oI)] := News.all N₃ hk'
    have cI : c ≠ I := by rintro rfl; rw [fc] at eI; cases eI
    have dI : d ≠ I := by rintro rfl; rw [fd] at eI; cases eI
    have hC' : ChainAt w (fun a => g.get? a = none ∧ a ≠ L' ∧ a ≠ I) h' (its.drop (its.length - (j + 1))) (.ref c) := by
      have e1 : ((its.length : Int) - 1 + (j : Nat) * (-1)).toNat = its.length - (j + 1) := by omega
      rw [e1] at hx
      have e2 : its.length - j = its.length - (j + 1) + 1 := by omega
      rw [e2] at hC
      obtain ⟨h9, e9⟩ := List.getElem?_eq_some_iff.mp hx
      rw [List.drop_eq_getElem_cons h9, e9]
      exact ⟨c, d, _, t1, t2, rfl, ⟨nc.2, nc.1, cI⟩, ⟨nd.2, nd.1, dI⟩, ec, ed, ChainAt.mono (fun a o na e => ⟨na, hk' _ _ e (by simp)⟩) hC⟩
    k_steps
    (rename Fr g _ _ _ => Fe); (rename News g _ _ _ => Ne); (rename Kept [_] _ _ => kS)
    refine ⟨_, _, _, rfl, Fe.ns, ?_, Fe.keep, c, some (.int ((its.length : Int) - 1 + (j : Nat) * (-1)) tj), ?_, ChainAt.mono (fun a o na e => ⟨na, kS _ _ e (by simpa using na.2.1)⟩) hC'⟩
    · intro b hb o e
      rw [List.mem_singleton.mp hb] at e ⊢
      rw [eI] at e; cases e; exact Ne.get (List.Mem.head _)
    · funext z
      by_cases h1 : z = Str.ofString "place"
      · subst h1; with_unfolding_all rfl
      · simp only [if_neg h1]
        by_cases h2 : z = Str.ofString "found"
        · subst h2; with_unfolding_all rfl
        · simp [h2]
  · rintro h' tk m' hn' ⟨kk, v, u, rfl, hC⟩
    have F₃ : Fr g L' h' _ := ⟨hn', kk, FE.above⟩
    have N₃ : News g L' h' [] := News.nil
    clear FE Ne
    k_steps
    refine hret _ _ _ (fun b o e n => kk b o (kG b o e n)) (ChainAt.mono (N := fun a => g.get? a = none ∧ a ≠ L' ∧ a ≠ I) (fun a o na e => ⟨GSub.fresh kG (by simp) na.1, e⟩) (by simpa using hC))
end

section
theorem calm12 : True := by
  w_top off
  exact True.intro
abbrev consD (w : World) (x y : Value) (t1 t2 : Tok) : Obj := dictOf [⟨PyData.keyHash w.params (Str.ofString "car"), .str (Str.ofString "car") t1, x⟩, ⟨PyData.keyHash w.params (Str.ofString "cdr"), .str (Str.ofString "cdr") t2, y⟩] 2
theorem words8 : True := by
  k_with_none
  k_with "my k_room" => (first | exact Nat.le_of_ble_eq_true rfl | (simp only [depth_under_make, depth_under_kw, depth_in1, depth_deeper, depth_caller, recursionLimit] at *; omega))
  k_with "my eval ListComp" => (((fail_if_success (rename LibOk => x9)); refine Stop.out ?_))
  k_with "my exec Assign cons ListComp" => (((fail_if_success (rename LibOk => x9)); refine Stop.out ?_))
  k_with "my mine enter" => ((
  refine wpAny_call ?_
  first
  | (refine' code_defG ?k1 ?k2 ?k3 ?k4 ?k5 ?kA ?kF ?kK ?k6 ?k7 ?k8 ?k9 ?kB ?_ ?c2 ?c3 ?c4 ?c5; (case kA => exact rfl); (case kF => exact rfl); (case kK => first | exact rfl | assumption); (case k1 => k_asm); (case k2 => k_asm); (case k3 => k_asm); (case k4 => k_asm); (case k5 => k_asm); (case k6 => k_is); (case k7 => k_is); (case k8 => k_room); (case k9 => first | exact BindsTo.of_eq rfl | exact binds_K (by k_in) rfl (by k_is) rfl rfl rfl | fail "mine enter: binds"); (case c5 => decide); (case kB => exact locs rfl); (case c2 => exact rfl); (case c3 => exact rfl); (case c4 => exact rfl); k_whole)
  | (refine' code_defCG ?k1 ?k2 ?k3 ?k4 ?k5 ?kA ?kF ?kK ?k6 ?k7 ?k8 ?k9 ?kB ?kD ?_ ?c2 ?c3 ?c4; (case kA => exact rfl); (case kF => exact rfl); (case kK => first | exact rfl | assumption); (case k1 => k_asm); (case k2 => k_asm); (case k3 => k_asm); (case k4 => k_asm); (case k5 => k_asm); (case k6 => k_is); (case k7 => k_is); (case k8 => k_room); (case k9 => first | exact BindsTo.of_eq rfl | exact binds_K (by k_in) rfl (by k_is) rfl rfl rfl | fail "mine enter: binds"); (case kB => exact rfl); (case kD => decide +kernel); (case c2 => exact rfl); (case c3 => exact rfl); (case c4 => exact rfl); k_whole)))
  k_with "my mine dip" => ((k_here; k_dflt (refine' use_dip ?hh ?hd ?hu ?hA ?B ?F ?K ?T ?hcs ?N ?V ?h0 ?hx0 ?hx1 ?hl ?hk ?_; (case hh => exact rfl); (case hA => exact rfl); (case hd => first | exact Nat.le_of_ble_eq_true rfl | (simp only [depth_in1, depth_deeper]; omega)); (case hu => first | exact Nat.le_of_ble_eq_true rfl | (simp only [units_in1, units_deeper]; omega)); (case B => k_asm); (case F => k_asm); (case K => k_asm); (case T => k_asm); (case hcs => first | exact rfl | assumption); (case N => k_asm); (case V => k_updF); (case h0 => assumption); (case hx0 => assumption); (case hx1 => assumption); (case hl => (refine' IntsAt.up ?ha (Fr.keep ?hb); (case hb => k_asm); (case ha => k_asm))); (case hk => decide); k_whole); intro i' t' at' ta' x' tx' n' h' tk' b0 b1 b2 b3 b4 F' N'; (try dsimp only at N'); (try k_sweep)))
  k_with "my call ref" => (first | walk_at "mine dip" | ((with_reducible show wpAny _ _ (call (Value.ref 168) _) _ _ _); refine Stop.out ?_) | ((with_reducible show wpAny _ _ (call (Value.ref 188) _) _ _ _); refine Stop.out ?_) | ((with_reducible show wpAny _ _ (call (Value.ref 224) _) _ _ _); refine Stop.out ?_) | ((with_reducible show wpAny _ _ (call (Value.ref 229) _) _ _ _); refine Stop.out ?_) | ((with_reducible show wpAny _ _ (call (Value.ref 236) _) _ _ _); refine Stop.out ?_) | ((with_reducible show wpAny _ _ (call (Value.ref 77) _) _ _ _); refine Stop.out ?_) | ((with_reducible show wpAny _ _ (call (Value.ref 65) _) _ _ _); refine Stop.out ?_) | ((with_reducible show wpAny _ _ (call (Value.ref 241) _) _ _ _); refine Stop.out ?_) | ((with_reducible show wpAny _ _ (call (Value.ref 246) _) _ _ _); refine Stop.out ?_) | ((with_reducible show wpAny _ _ (call (Value.ref 253) _) _ _ _); refine Stop.out ?_) | ((with_reducible show wpAny _ _ (call (Value.ref 105) _) _ _ _); refine Stop.out ?_))
  k_with "my mine ct" => (((rename Ct _ _ _ _ _ _ _ _ _ _ _ => hCt); k_dflt (refine' use_ct hCt ?hh ?hd ?hu ?hA ?B ?F ?K ?T ?hcs ?hX ?_; (case hh => exact rfl); (case hA => exact rfl); (case hd => first | exact Nat.le_of_ble_eq_true rfl | (simp only [depth_in1, depth_deeper]; omega)); (case hu => first | exact Nat.le_of_ble_eq_true rfl | (simp only [units_in1, units_deeper]; omega)); (case B => k_asm); (case F => k_asm); (case K => k_asm); (case T => k_asm); (case hcs => first | exact rfl | assumption); (case hX => first | exact News.inX (by k_asm) (by k_mem) | assumption | (intro x hx; cases hx)))))
  k_with "my storeName" => ((k_here; k_dflt (first | (refine' stK ?F ?N ?_ ?a ?b; (case F => k_asm); (case N => k_asm); (case a => rfl); (case b => rfl); k_whole; intro h' F' N' kS'; (try k_sweep)) | (refine' stC ?F ?N ?c ?U ?d ?_ ?a ?b; (case a => rfl); (case b => rfl); (case F => k_asm); (case N => k_asm); (case c => rfl); (case U => k_updF); (case d => k_asm); k_whole; intro h' o' F' N' d' kS'; (try dsimp only at N'); (try k_sweep)))))
  k_with "my compareOp Is ref ref" => ((k_here; (with_reducible show wpAny _ _ (compareOp CmpOp.Is (Value.ref _) (Value.ref _)) _ _ _); k_dflt (refine' kto_is ?a ?b ?n ?c ?_; (case a => first | kto_obj | (refine' gr_get ?F ?e; (case F => k_asm); (case e => with_reducible assumption))); (case b => first | kto_obj | (refine' gr_get ?F ?e; (case F => k_asm); (case e => with_reducible assumption))); (case n => first | assumption | exact Ne.symm (by assumption) | kto_ne); (case c => kto_not); k_whole)))
  k_with "my compareOp IsNot ref ref" => ((k_here; (with_reducible show wpAny _ _ (compareOp CmpOp.IsNot (Value.ref _) (Value.ref _)) _ _ _); k_dflt (refine' kto_isnot ?a ?b ?n ?c ?_; (case a => first | kto_obj | (refine' gr_get ?F ?e; (case F => k_asm); (case e => with_reducible assumption))); (case b => first | kto_obj | (refine' gr_get ?F ?e; (case F => k_asm); (case e => with_reducible assumption))); (case n => first | assumption | exact Ne.symm (by assumption) | kto_ne); (case c => kto_not); k_whole)))
  k_with "my compareOp Is int ref" => ((k_here; refine wpAny_is_other (by rfl) (by intro x; cases x) ?_))
  k_with "my compareOp IsNot int ref" => ((k_here; refine wpAny_isNot_other (by rfl) (by intro x; cases x) ?_))
  k_with "my compareOp Is ref int" => ((k_here; refine wpAny_is_other (by rfl) (by intro x; cases x) ?_))
  k_with "my compareOp IsNot ref int" => ((k_here; refine wpAny_isNot_other (by rfl) (by intro x; cases x) ?_))
  k_with "my newTuple" => (((rename RawTup => rt9); refine Stop.out ?_))
  k_with "my execs cons" => (((with_reducible show wpAny _ _ _ _ _ _); k_fold; refine wpAny_execs_cons ?_))
  k_with "my chain47" => (first | (with_reducible assumption) | ((with_reducible refine Nat.lt_trans (by assumption) ?_); walk_at "chain47"))
  k_with "my lt47" => (first | (with_reducible assumption) | (with_reducible exact Nat.lt_add_one _) | (with_reducible exact Nat.lt_trans (Nat.lt_add_one _) (Nat.lt_add_one _)) | ((fail_if_success (fail_if_success (with_reducible refine pkG (by assumption) ?_))); first | (with_reducible exact pk0 (by assumption)) | (with_reducible exact pk1 (by assumption)) | (with_reducible exact pk2 (by assumption)) | (with_reducible exact pk3 (by assumption)) | (with_reducible exact pk4 (by assumption)) | (with_reducible exact pk5 (by assumption)) | (with_reducible exact pk6 (by assumption)) | (with_reducible exact pk7 (by assumption)) | (with_reducible exact pk8 (by assumption)) | (with_reducible exact pk9 (by assumption)) | (with_reducible exact pk10 (by assumption)) | (with_reducible exact pk11 (by assumption)) | (with_reducible exact pk12 (by assumption)) | (with_reducible exact pk13 (by assumption)) | (with_reducible exact pk14 (by assumption)) | (with_reducible exact pk15 (by assumption)) | (with_reducible exact pk16 (by assumption)) | (with_reducible exact pk17 (by assumption)) | (with_reducible exact pk18 (by assumption)) | (with_reducible exact pk19 (by assumption))) | walk_at "chain47" | ((with_reducible refine Nat.lt_trans (Nat.lt_add_one _) ?_); walk_at "chain47") | ((with_reducible refine Nat.lt_trans (Nat.lt_trans (Nat.lt_add_one _) (Nat.lt_add_one _)) ?_); walk_at "chain47"))
  k_with "my in47a" => (first | (with_reducible exact pk0) | (with_reducible exact pk1) | (with_reducible exact pk2) | (with_reducible exact pk3) | (with_reducible exact pk4) | (with_reducible exact pk5) | (with_reducible exact pk6) | (with_reducible exact pk7))
  k_with "my in47b" => (first | (with_reducible exact pk8) | (with_reducible exact pk9) | (with_reducible exact pk10) | (with_reducible exact pk11) | (with_reducible exact pk12) | (with_reducible exact pk13) | (with_reducible exact pk14) | (with_reducible exact pk15))
  k_with "my in47c" => (first | (with_reducible exact pk16) | (with_reducible exact pk17) | (with_reducible exact pk18) | (with_reducible exact pk19) | (with_reducible exact pk20) | (with_reducible exact pk21) | (with_reducible exact pk22) | (with_reducible exact pk23))
  k_with "my in47d" => (first | (with_reducible exact pk24) | (with_reducible exact pk25) | (with_reducible exact pk26) | (with_reducible exact pk27) | (with_reducible exact pk28) | (with_reducible exact pk29) | (with_reducible exact pk30) | (with_reducible exact pk31))
  k_with "my in47e" => (first | (with_reducible exact pk32) | (with_reducible exact pk33) | (with_reducible exact pk34) | (with_reducible exact pk35) | (with_reducible exact pk36) | (with_reducible exact pk37) | (with_reducible exact pk38) | (with_reducible exact pk39))
  k_with "my pk47" => (((fail_if_success (fail_if_success (with_reducible refine pkG (by assumption) ?_))); first | ((fail_if_success (fail_if_success ((with_reducible refine pkI (by assumption) ?_); walk_at "in47a"))); first | (with_reducible exact pk0 (by assumption)) | (with_reducible exact pk1 (by assumption)) | (with_reducible exact pk2 (by assumption)) | (with_reducible exact pk3 (by assumption)) | (with_reducible exact pk4 (by assumption)) | (with_reducible exact pk5 (by assumption)) | (with_reducible exact pk6 (by assumption)) | (with_reducible exact pk7 (by assumption))) | ((fail_if_success (fail_if_success ((with_reducible refine pkI (by assumption) ?_); walk_at "in47b"))); first | (with_reducible exact pk8 (by assumption)) | (with_reducible exact pk9 (by assumption)) | (with_reducible exact pk10 (by assumption)) | (with_reducible exact pk11 (by assumption)) | (with_reducible exact pk12 (by assumption)) | (with_reducible exact pk13 (by assumption)) | (with_reducible exact pk14 (by assumption)) | (with_reducible exact pk15 (by assumption))) | ((fail_if_success (fail_if_success ((with_reducible refine pkI (by assumption) ?_); walk_at "in47c"))); first | (with_reducible exact pk16 (by assumption)) | (with_reducible exact pk17 (by assumption)) | (with_reducible exact pk18 (by assumption)) | (with_reducible exact pk19 (by assumption)) | (with_reducible exact pk20 (by assumption)) | (with_reducible exact pk21 (by assumption)) | (with_reducible exact pk22 (by assumption)) | (with_reducible exact pk23 (by assumption))) | ((fail_if_success (fail_if_success ((with_reducible refine pkI (by assumption) ?_); walk_at "in47d"))); first | (with_reducible exact pk24 (by assumption)) | (with_reducible exact pk25 (by assumption)) | (with_reducible exact pk26 (by assumption)) | (with_reducible exact pk27 (by assumption)) | (with_reducible exact pk28 (by assumption)) | (with_reducible exact pk29 (by assumption)) | (with_reducible exact pk30 (by assumption)) | (with_reducible exact pk31 (by assumption))) | ((fail_if_success (fail_if_success ((with_reducible refine pkI (by assumption) ?_); walk_at "in47e"))); first | (with_reducible exact pk32 (by assumption)) | (with_reducible exact pk33 (by assumption)) | (with_reducible exact pk34 (by assumption)) | (with_reducible exact pk35 (by assumption)) | (with_reducible exact pk36 (by assumption)) | (with_reducible exact pk37 (by assumption)) | (with_reducible exact pk38 (by assumption)) | (with_reducible exact pk39 (by assumption)))))
  k_with "my ne47" => (first | (with_reducible exact Nat.ne_of_lt (by assumption)) | (with_reducible exact Nat.ne_of_gt (by assumption)) | ((with_reducible refine Nat.ne_of_lt ?_); walk_at "pk47") | ((with_reducible refine Nat.ne_of_gt ?_); walk_at "pk47") | ((with_reducible refine Nat.ne_of_gt ?_); (with_reducible refine ltTail ?_ (by assumption)); walk_at "pk47") | ((with_reducible refine Nat.ne_of_lt ?_); (with_reducible refine ltTail ?_ (by assumption)); walk_at "pk47") | ((with_reducible refine Nat.ne_of_lt ?_); walk_at "lt47") | ((with_reducible refine Nat.ne_of_gt ?_); walk_at "lt47") | omega)
  k_with "my k_ne" => ((refine neN ?_; (try dsimp only); walk_at "ne47"))
  k_with "my neR47" => ((refine neN ?_; (try dsimp only); first | ((with_reducible refine Nat.ne_of_gt ?_); first | walk_at "pk47" | walk_at "chain47" | ((with_reducible refine ltTail ?_ (by assumption)); walk_at "pk47")) | k_ne))
  k_with "my k_all" => (first | exact List.forall_mem_nil _ | (refine allLt_ne ?_; (try dsimp only [AllLt]); with_reducible assumption) | (refine' List.forall_mem_cons.mpr ⟨?a, ?b⟩; (case a => k_ne); (case b => k_all)))
  k_with "my k_upd" => (first | (refine' Upd.head ?a; (case a => k_all)) | (refine' Upd.tail ?a ?b; (case a => walk_at "neR47"); (case b => k_upd)))
  k_with "my k_updF" => (first | (refine' UpdF.head ?a; (case a => k_all)) | (refine' UpdF.tail ?a ?b; (case a => walk_at "neR47"); (case b => k_updF)))
  exact True.intro
theorem InstAt.of_gr {h₀ h : Heap} {L x C dx : Addr} {m : Str → Option Value} {od : Obj} {sl : Array (Option Value)} (F : Fr h₀ L h m) (h1 : h₀.get? x = some ⟨.ref C, some dx, .plain, sl⟩) (h2 : h₀.get? dx = some od) :
    InstAt h x ⟨.ref C, some dx, .plain, sl⟩ C (some od) := ⟨F.keep _ _ h1, rfl, rfl, F.keep _ _ h2⟩
def BpSym (h : Heap) (sy : Addr) : Prop := ∃ dy es n, h.get? sy = some (instObj 38 dy) ∧ h.get? dy = some (dictOf es n)
def TupAt2 (h : Heap) (r : Addr) (x y : Value) : Prop := ∃ n, h.get? r = some { cls := .type "tuple", data := .seq #[x, y] n }
theorem words9 : True := by
  k_with "my k_inst" => ((refine' InstAt.of_gr ?F ?h1 ?h2; (case F => k_asm); (case h1 => with_reducible assumption); (case h2 => with_reducible assumption)))
  exact True.intro
set_option maxHeartbeats 4000000 in
theorem bp_sym {w : World} {mg mb : Str → Option Value} {mean : ExcName → Option Value} {s : Shared} {sy : Addr} (hs : BpSym s.heap sy)  :
    Ct w mg mb mean 700 3000 202 [.ref sy] s [] (fun r h' => ∃ q, r = .ref q ∧ s.heap.get? q = none ∧ TupAt2 h' q (.ref sy) (.ref 44)) := by
  obtain ⟨dy, es, ne, f1, f2⟩ := hs
  unfold Ct
  k_fill
  intro gd cn cs a ccd cl outer A₀ base h₀ L m Q E B F X T hcs hX hret
  have N : News h₀ L s.heap [] := News.nil
  walk_at "mine enter"
  intro g L' h₁ FG F₁ N₁ BG XG TG kG; (try dsimp only)
  have f1 := kG _ _ f1 (by simp)
  have f2 := kG _ _ f2 (by simp)
  k_steps
  all_goals (
    (rename Fr g _ _ _ => Fe); (rename News g _ _ _ => Ne)
    exact hret _ _ _ (fun b o e n => Fe.keep b o (kG b o e n)) ⟨_, rfl, GSub.fresh kG (by simp) (News.fresh Ne (List.Mem.head _)), _, Ne.get (List.Mem.head _)⟩)
set_option maxHeartbeats 4000000 in
theorem bp_one {w : World} {mg mb : Str → Option Value} {mean : ExcName → Option Value} {s : Shared} {c d sy : Addr} {t1 t2 : Tok} (hs : BpSym s.heap sy) (e1 : s.heap.get? c = some (instObj 65 d)) (e2 : s.heap.get? d = some (consD w (.ref sy) (.ref 44) t1 t2)) :
    Ct w mg mb mean 700 3000 202 [.ref c] s [] (fun r h' => ∃ q, r = .ref q ∧ s.heap.get? q = none ∧ TupAt2 h' q (.ref sy) (.ref 44)) := by
  obtain ⟨dy, es, ne, f1, f2⟩ := hs
  unfold Ct
  k_fill
  intro gd cn cs a ccd cl outer A₀ base h₀ L m Q E B F X T hcs hX hret
  have N : News h₀ L s.heap [] := News.nil
  walk_at "mine enter"
  intro g L' h₁ FG F₁ N₁ BG XG TG kG; (try dsimp only)
  have f1 := kG _ _ f1 (by simp)
  have f2 := kG _ _ f2 (by simp)
  have e1 := kG _ _ e1 (by simp)
  have e2 := kG _ _ e2 (by simp)
  k_steps
  all_goals (
    (rename Fr g _ _ _ => Fe); (rename News g _ _ _ => Ne)
    exact hret _ _ _ (fun b o e n => Fe.keep b o (kG b o e n)) ⟨_, rfl, GSub.fresh kG (by simp) (News.fresh Ne (List.Mem.head _)), _, Ne.get (List.Mem.head _)⟩)
set_option maxHeartbeats 4000000 in
theorem bp_two {w : World} {mg mb : Str → Option Value} {mean : ExcName → Option Value} {s : Shared} {c d c2 d2 sy : Addr} {t1 t2 t3 t4 : Tok} {i : Int} {ti : Tok} (hs : BpSym s.heap sy) (z2 : c2 ≠ 44) (e1 : s.heap.get? c = some (instObj 65 d)) (e2 : s.heap.get? d = some (consD w (.ref sy) (.ref c2) t1 t2)) (e3 : s.heap.get? c2 = some (instObj 65 d2)) (e4 : s.heap.get? d2 = some (consD w (.int i ti) (.ref 44) t3 t4)) :
    Ct w mg mb mean 700 3000 202 [.ref c] s [] (fun r h' => ∃ q, r = .ref q ∧ s.heap.get? q = none ∧ TupAt2 h' q (.ref sy) (.int i ti)) := by
  obtain ⟨dy, es, ne, f1, f2⟩ := hs
  unfold Ct
  k_fill
  intro gd cn cs a ccd cl outer A₀ base h₀ L m Q E B F X T hcs hX hret
  have N : News h₀ L s.heap [] := News.nil
  walk_at "mine enter"
  intro g L' h₁ FG F₁ N₁ BG XG TG kG; (try dsimp only)
  have f1 := kG _ _ f1 (by simp)
  have f2 := kG _ _ f2 (by simp)
  have e1 := kG _ _ e1 (by simp)
  have e2 := kG _ _ e2 (by simp)
  have e3 := kG _ _ e3 (by simp)
  have e4 := kG _ _ e4 (by simp)
  k_steps
  all_goals (
    (rename Fr g _ _ _ => Fe); (rename News g _ _ _ => Ne)
    exact hret _ _ _ (fun b o e n => Fe.keep b o (kG b o e n)) ⟨_, rfl, GSub.fresh kG (by simp) (News.fresh Ne (List.Mem.head _)), _, Ne.get (List.Mem.head _)⟩)
set_option maxHeartbeats 4000000 in
theorem bp_three {w : World} {mg mb : Str → Option Value} {mean : ExcName → Option Value} {s : Shared} {c d c2 d2 sy : Addr} {t1 t2 t3 t4 : Tok} {c3 d3 : Addr} {i : Int} {ti : Tok} (hs : BpSym s.heap sy) (z2 : c2 ≠ 44) (z3 : c3 ≠ 44) (e1 : s.heap.get? c = some (instObj 65 d)) (e2 : s.heap.get? d = some (consD w (.ref sy) (.ref c2) t1 t2)) (e3 : s.heap.get? c2 = some (instObj 65 d2)) (e4 : s.heap.get? d2 = some (consD w (.int i ti) (.ref c3) t3 t4)) (e5 : s.heap.get? c3 = some (instObj 65 d3)) :
    Ct w mg mb mean 700 3000 202 [.ref c] s [] (fun r h' => r = .none) := by
  obtain ⟨dy, es, ne, f1, f2⟩ := hs
  unfold Ct
  k_fill
  intro gd cn cs a ccd cl outer A₀ base h₀ L m Q E B F X T hcs hX hret
  have N : News h₀ L s.heap [] := News.nil
  walk_at "mine enter"
  intro g L' h₁ FG F₁ N₁ BG XG TG kG; (try dsimp only)
  have f1 := kG _ _ f1 (by simp)
  have f2 := kG _ _ f2 (by simp)
  have e1 := kG _ _ e1 (by simp)
  have e2 := kG _ _ e2 (by simp)
  have e3 := kG _ _ e3 (by simp)
  have e4 := kG _ _ e4 (by simp)
  have e5 := kG _ _ e5 (by simp)
  k_steps
  all_goals (
    (rename Fr g _ _ _ => Fe)
    exact hret _ _ _ (fun b o e n => Fe.keep b o (kG b o e n)) rfl)
set_option maxHeartbeats 4000000 in
theorem bp_int {w : World} {mg mb : Str → Option Value} {mean : ExcName → Option Value} {s : Shared} {sy : Addr} {i : Int} {ti : Tok} (hs : BpSym s.heap sy)  :
    Ct w mg mb mean 700 3000 202 [.int i ti] s [] (fun r h' => r = .none) := by
  obtain ⟨dy, es, ne, f1, f2⟩ := hs
  unfold Ct
  k_fill
  intro gd cn cs a ccd cl outer A₀ base h₀ L m Q E B F X T hcs hX hret
  have N : News h₀ L s.heap [] := News.nil
  walk_at "mine enter"
  intro g L' h₁ FG F₁ N₁ BG XG TG kG; (try dsimp only)
  have f1 := kG _ _ f1 (by simp)
  have f2 := kG _ _ f2 (by simp)
  k_steps
  all_goals (
    (rename Fr g _ _ _ => Fe)
    exact hret _ _ _ (fun b o e n => Fe.keep b o (kG b o e n)) rfl)
set_option maxHeartbeats 4000000 in
theorem bp_first {w : World} {mg mb : Str → Option Value} {mean : ExcName → Option Value} {s : Shared} {c d sy : Addr} {t1 t2 : Tok} {v : Value} {i : Int} {ti : Tok} (hs : BpSym s.heap sy) (e1 : s.heap.get? c = some (instObj 65 d)) (e2 : s.heap.get? d = some (consD w (.int i ti) v t1 t2)) :
    Ct w mg mb mean 700 3000 202 [.ref c] s [] (fun r h' => r = .none) := by
  obtain ⟨dy, es, ne, f1, f2⟩ := hs
  unfold Ct
  k_fill
  intro gd cn cs a ccd cl outer A₀ base h₀ L m Q E B F X T hcs hX hret
  have N : News h₀ L s.heap [] := News.nil
  walk_at "mine enter"
  intro g L' h₁ FG F₁ N₁ BG XG TG kG; (try dsimp only)
  have f1 := kG _ _ f1 (by simp)
  have f2 := kG _ _ f2 (by simp)
  have e1 := kG _ _ e1 (by simp)
  have e2 := kG _ _ e2 (by simp)
  k_steps
  all_goals (
    (rename Fr g _ _ _ => Fe)
    exact hret _ _ _ (fun b o e n => Fe.keep b o (kG b o e n)) rfl)
set_option maxHeartbeats 4000000 in
theorem bp_pair {w : World} {mg mb : Str → Option Value} {mean : ExcName → Option Value} {s : Shared} {c d sy : Addr} {t1 t2 : Tok} {i : Int} {ti : Tok} (hs : BpSym s.heap sy) (e1 : s.heap.get? c = some (instObj 65 d)) (e2 : s.heap.get? d = some (consD w (.ref sy) (.int i ti) t1 t2)) :
    Ct w mg mb mean 700 3000 202 [.ref c] s [] (fun r h' => r = .none) := by
  obtain ⟨dy, es, ne, f1, f2⟩ := hs
  unfold Ct
  k_fill
  intro gd cn cs a ccd cl outer A₀ base h₀ L m Q E B F X T hcs hX hret
  have N : News h₀ L s.heap [] := News.nil
  walk_at "mine enter"
  intro g L' h₁ FG F₁ N₁ BG XG TG kG; (try dsimp only)
  have f1 := kG _ _ f1 (by simp)
  have f2 := kG _ _ f2 (by simp)
  have e1 := kG _ _ e1 (by simp)
  have e2 := kG _ _ e2 (by simp)
  k_steps
  all_goals (
    (rename Fr g _ _ _ => Fe)
    exact hret _ _ _ (fun b o e n => Fe.keep b o (kG b o e n)) rfl)
set_option maxHeartbeats 4000000 in
theorem bp_dot {w : World} {mg mb : Str → Option Value} {mean : ExcName → Option Value} {s : Shared} {c d c2 d2 sy : Addr} {t1 t2 t3 t4 : Tok} {i j : Int} {ti tj : Tok} (hs : BpSym s.heap sy) (z2 : c2 ≠ 44) (e1 : s.heap.get? c = some (instObj 65 d)) (e2 : s.heap.get? d = some (consD w (.ref sy) (.ref c2) t1 t2)) (e3 : s.heap.get? c2 = some (instObj 65 d2)) (e4 : s.heap.get? d2 = some (consD w (.int i ti) (.int j tj) t3 t4)) :
    Ct w mg mb mean 700 3000 202 [.ref c] s [] (fun r h' => r = .none) := by
  obtain ⟨dy, es, ne, f1, f2⟩ := hs
  unfold Ct
  k_fill
  intro gd cn cs a ccd cl outer A₀ base h₀ L m Q E B F X T hcs hX hret
  have N : News h₀ L s.heap [] := News.nil
  walk_at "mine enter"
  intro g L' h₁ FG F₁ N₁ BG XG TG kG; (try dsimp only)
  have f1 := kG _ _ f1 (by simp)
  have f2 := kG _ _ f2 (by simp)
  have e1 := kG _ _ e1 (by simp)
  have e2 := kG _ _ e2 (by simp)
  have e3 := kG _ _ e3 (by simp)
  have e4 := kG _ _ e4 (by simp)
  k_steps
  all_goals (
    (rename Fr g _ _ _ => Fe)
    exact hret _ _ _ (fun b o e n => Fe.keep b o (kG b o e n)) rfl)
end

section
theorem calm13 : True := by
  w_top off
  exact True.intro
section
variable {w : World} {mg mb : Str → Option Value} {mean : ExcName → Option Value} {s : Shared} {q : Addr} {n : Nat} {x y z : Value} {o44 : Obj}
    {A A₀ : Around} {cn : Str} {cs : Scope} {a : Addr} {ccd : Value} {cl : List (Str × Addr)} {outer : List Env} {base h₀ : Heap} {L : Addr} {m : Str → Option Value} {Q E : Value → Shared → Prop} {news : List (Addr × Obj)}
theorem words10 : True := by
  k_with_none
  k_with "my k_room" => (first | exact Nat.le_of_ble_eq_true rfl | (simp only [depth_under_make, depth_under_kw, depth_in1, depth_deeper, depth_caller, recursionLimit] at *; omega))
  k_with "my eval ListComp" => (((fail_if_success (rename LibOk => x9)); refine Stop.out ?_))
  k_with "my exec Assign cons ListComp" => (((fail_if_success (rename LibOk => x9)); refine Stop.out ?_))
  k_with "my mine enter" => ((
  refine wpAny_call ?_
  first
  | (refine' code_defG ?k1 ?k2 ?k3 ?k4 ?k5 ?kA ?kF ?kK ?k6 ?k7 ?k8 ?k9 ?kB ?_ ?c2 ?c3 ?c4 ?c5; (case kA => exact rfl); (case kF => exact rfl); (case kK => first | exact rfl | assumption); (case k1 => k_asm); (case k2 => k_asm); (case k3 => k_asm); (case k4 => k_asm); (case k5 => k_asm); (case k6 => k_is); (case k7 => k_is); (case k8 => k_room); (case k9 => first | exact BindsTo.of_eq rfl | exact binds_K (by k_in) rfl (by k_is) rfl rfl rfl | fail "mine enter: binds"); (case c5 => decide); (case kB => exact locs rfl); (case c2 => exact rfl); (case c3 => exact rfl); (case c4 => exact rfl); k_whole)
  | (refine' code_defCG ?k1 ?k2 ?k3 ?k4 ?k5 ?kA ?kF ?kK ?k6 ?k7 ?k8 ?k9 ?kB ?kD ?_ ?c2 ?c3 ?c4; (case kA => exact rfl); (case kF => exact rfl); (case kK => first | exact rfl | assumption); (case k1 => k_asm); (case k2 => k_asm); (case k3 => k_asm); (case k4 => k_asm); (case k5 => k_asm); (case k6 => k_is); (case k7 => k_is); (case k8 => k_room); (case k9 => first | exact BindsTo.of_eq rfl | exact binds_K (by k_in) rfl (by k_is) rfl rfl rfl | fail "mine enter: binds"); (case kB => exact rfl); (case kD => decide +kernel); (case c2 => exact rfl); (case c3 => exact rfl); (case c4 => exact rfl); k_whole)))
  k_with "my mine dip" => ((k_here; k_dflt (refine' use_dip ?hh ?hd ?hu ?hA ?B ?F ?K ?T ?hcs ?N ?V ?h0 ?hx0 ?hx1 ?hl ?hk ?_; (case hh => exact rfl); (case hA => exact rfl); (case hd => first | exact Nat.le_of_ble_eq_true rfl | (simp only [depth_in1, depth_deeper]; omega)); (case hu => first | exact Nat.le_of_ble_eq_true rfl | (simp only [units_in1, units_deeper]; omega)); (case B => k_asm); (case F => k_asm); (case K => k_asm); (case T => k_asm); (case hcs => first | exact rfl | assumption); (case N => k_asm); (case V => k_updF); (case h0 => assumption); (case hx0 => assumption); (case hx1 => assumption); (case hl => (refine' IntsAt.up ?ha (Fr.keep ?hb); (case hb => k_asm); (case ha => k_asm))); (case hk => decide); k_whole); intro i' t' at' ta' x' tx' n' h' tk' b0 b1 b2 b3 b4 F' N'; (try dsimp only at N'); (try k_sweep)))
  k_with "my call ref" => (first | walk_at "mine dip" | ((with_reducible show wpAny _ _ (call (Value.ref 168) _) _ _ _); refine Stop.out ?_) | ((with_reducible show wpAny _ _ (call (Value.ref 188) _) _ _ _); refine Stop.out ?_) | ((with_reducible show wpAny _ _ (call (Value.ref 224) _) _ _ _); refine Stop.out ?_) | ((with_reducible show wpAny _ _ (call (Value.ref 229) _) _ _ _); refine Stop.out ?_) | ((with_reducible show wpAny _ _ (call (Value.ref 236) _) _ _ _); refine Stop.out ?_) | ((with_reducible show wpAny _ _ (call (Value.ref 77) _) _ _ _); refine Stop.out ?_) | ((with_reducible show wpAny _ _ (call (Value.ref 65) _) _ _ _); refine Stop.out ?_) | ((with_reducible show wpAny _ _ (call (Value.ref 241) _) _ _ _); refine Stop.out ?_) | ((with_reducible show wpAny _ _ (call (Value.ref 246) _) _ _ _); refine Stop.out ?_) | ((with_reducible show wpAny _ _ (call (Value.ref 253) _) _ _ _); refine Stop.out ?_) | ((with_reducible show wpAny _ _ (call (Value.ref 105) _) _ _ _); refine Stop.out ?_))
  k_with "my mine ct" => (((rename Ct _ _ _ _ _ _ _ _ _ _ _ => hCt); k_dflt (refine' use_ct hCt ?hh ?hd ?hu ?hA ?B ?F ?K ?T ?hcs ?hX ?_; (case hh => exact rfl); (case hA => exact rfl); (case hd => first | exact Nat.le_of_ble_eq_true rfl | (simp only [depth_in1, depth_deeper]; omega)); (case hu => first | exact Nat.le_of_ble_eq_true rfl | (simp only [units_in1, units_deeper]; omega)); (case B => k_asm); (case F => k_asm); (case K => k_asm); (case T => k_asm); (case hcs => first | exact rfl | assumption); (case hX => first | exact News.inX (by k_asm) (by k_mem) | assumption | (intro x hx; cases hx)))))
  k_with "my storeName" => ((k_here; k_dflt (first | (refine' stK ?F ?N ?_ ?a ?b; (case F => k_asm); (case N => k_asm); (case a => rfl); (case b => rfl); k_whole; intro h' F' N' kS'; (try k_sweep)) | (refine' stC ?F ?N ?c ?U ?d ?_ ?a ?b; (case a => rfl); (case b => rfl); (case F => k_asm); (case N => k_asm); (case c => rfl); (case U => k_updF); (case d => k_asm); k_whole; intro h' o' F' N' d' kS'; (try dsimp only at N'); (try k_sweep)))))
  k_with "my compareOp Is ref ref" => ((k_here; (with_reducible show wpAny _ _ (compareOp CmpOp.Is (Value.ref _) (Value.ref _)) _ _ _); k_dflt (refine' kto_is ?a ?b ?n ?c ?_; (case a => first | kto_obj | (refine' gr_get ?F ?e; (case F => k_asm); (case e => with_reducible assumption))); (case b => first | kto_obj | (refine' gr_get ?F ?e; (case F => k_asm); (case e => with_reducible assumption))); (case n => first | assumption | exact Ne.symm (by assumption) | kto_ne); (case c => kto_not); k_whole)))
  k_with "my compareOp IsNot ref ref" => ((k_here; (with_reducible show wpAny _ _ (compareOp CmpOp.IsNot (Value.ref _) (Value.ref _)) _ _ _); k_dflt (refine' kto_isnot ?a ?b ?n ?c ?_; (case a => first | kto_obj | (refine' gr_get ?F ?e; (case F => k_asm); (case e => with_reducible assumption))); (case b => first | kto_obj | (refine' gr_get ?F ?e; (case F => k_asm); (case e => with_reducible assumption))); (case n => first | assumption | exact Ne.symm (by assumption) | kto_ne); (case c => kto_not); k_whole)))
  k_with "my compareOp Is int ref" => ((k_here; refine wpAny_is_other (by rfl) (by intro x; cases x) ?_))
  k_with "my compareOp IsNot int ref" => ((k_here; refine wpAny_isNot_other (by rfl) (by intro x; cases x) ?_))
  k_with "my compareOp Is ref int" => ((k_here; refine wpAny_is_other (by rfl) (by intro x; cases x) ?_))
  k_with "my compareOp IsNot ref int" => ((k_here; refine wpAny_isNot_other (by rfl) (by intro x; cases x) ?_))
  k_with "my newTuple" => (((rename RawTup => rt9); refine Stop.out ?_))
  k_with "my execs cons" => (((with_reducible show wpAny _ _ _ _ _ _); k_fold; refine wpAny_execs_cons ?_))
  k_with "my chain47" => (first | (with_reducible assumption) | ((with_reducible refine Nat.lt_trans (by assumption) ?_); walk_at "chain47"))
  k_with "my lt47" => (first | (with_reducible assumption) | (with_reducible exact Nat.lt_add_one _) | (with_reducible exact Nat.lt_trans (Nat.lt_add_one _) (Nat.lt_add_one _)) | ((fail_if_success (fail_if_success (with_reducible refine pkG (by assumption) ?_))); first | (with_reducible exact pk0 (by assumption)) | (with_reducible exact pk1 (by assumption)) | (with_reducible exact pk2 (by assumption)) | (with_reducible exact pk3 (by assumption)) | (with_reducible exact pk4 (by assumption)) | (with_reducible exact pk5 (by assumption)) | (with_reducible exact pk6 (by assumption)) | (with_reducible exact pk7 (by assumption)) | (with_reducible exact pk8 (by assumption)) | (with_reducible exact pk9 (by assumption)) | (with_reducible exact pk10 (by assumption)) | (with_reducible exact pk11 (by assumption)) | (with_reducible exact pk12 (by assumption)) | (with_reducible exact pk13 (by assumption)) | (with_reducible exact pk14 (by assumption)) | (with_reducible exact pk15 (by assumption)) | (with_reducible exact pk16 (by assumption)) | (with_reducible exact pk17 (by assumption)) | (with_reducible exact pk18 (by assumption)) | (with_reducible exact pk19 (by assumption))) | walk_at "chain47" | ((with_reducible refine Nat.lt_trans (Nat.lt_add_one _) ?_); walk_at "chain47") | ((with_reducible refine Nat.lt_trans (Nat.lt_trans (Nat.lt_add_one _) (Nat.lt_add_one _)) ?_); walk_at "chain47"))
  k_with "my in47a" => (first | (with_reducible exact pk0) | (with_reducible exact pk1) | (with_reducible exact pk2) | (with_reducible exact pk3) | (with_reducible exact pk4) | (with_reducible exact pk5) | (with_reducible exact pk6) | (with_reducible exact pk7))
  k_with "my in47b" => (first | (with_reducible exact pk8) | (with_reducible exact pk9) | (with_reducible exact pk10) | (with_reducible exact pk11) | (with_reducible exact pk12) | (with_reducible exact pk13) | (with_reducible exact pk14) | (with_reducible exact pk15))
  k_with "my in47c" => (first | (with_reducible exact pk16) | (with_reducible exact pk17) | (with_reducible exact pk18) | (with_reducible exact pk19) | (with_reducible exact pk20) | (with_reducible exact pk21) | (with_reducible exact pk22) | (with_reducible exact pk23))
  k_with "my in47d" => (first | (with_reducible exact pk24) | (with_reducible exact pk25) | (with_reducible exact pk26) | (with_reducible exact pk27) | (with_reducible exact pk28) | (with_reducible exact pk29) | (with_reducible exact pk30) | (with_reducible exact pk31))
  k_with "my in47e" => (first | (with_reducible exact pk32) | (with_reducible exact pk33) | (with_reducible exact pk34) | (with_reducible exact pk35) | (with_reducible exact pk36) | (with_reducible exact pk37) | (with_reducible exact pk38) | (with_reducible exact pk39))
  k_with "my pk47" => (((fail_if_success (fail_if_success (with_reducible refine pkG (by assumption) ?_))); first | ((fail_if_success (fail_if_success ((with_reducible refine pkI (by assumption) ?_); walk_at "in47a"))); first | (with_reducible exact pk0 (by assumption)) | (with_reducible exact pk1 (by assumption)) | (with_reducible exact pk2 (by assumption)) | (with_reducible exact pk3 (by assumption)) | (with_reducible exact pk4 (by assumption)) | (with_reducible exact pk5 (by assumption)) | (with_reducible exact pk6 (by assumption)) | (with_reducible exact pk7 (by assumption))) | ((fail_if_success (fail_if_success ((with_reducible refine pkI (by assumption) ?_); walk_at "in47b"))); first | (with_reducible exact pk8 (by assumption)) | (with_reducible exact pk9 (by assumption)) | (with_reducible exact pk10 (by assumption)) | (with_reducible exact pk11 (by assumption)) | (with_reducible exact pk12 (by assumption)) | (with_reducible exact pk13 (by assumption)) | (with_reducible exact pk14 (by assumption)) | (with_reducible exact pk15 (by assumption))) | ((fail_if_success (fail_if_success ((with_reducible refine pkI (by assumption) ?_); walk_at "in47c"))); first | (with_reducible exact pk16 (by assumption)) | (with_reducible exact pk17 (by assumption)) | (with_reducible exact pk18 (by assumption)) | (with_reducible exact pk19 (by assumption)) | (with_reducible exact pk20 (by assumption)) | (with_reducible exact pk21 (by assumption)) | (with_reducible exact pk22 (by assumption)) | (with_reducible exact pk23 (by assumption))) | ((fail_if_success (fail_if_success ((with_reducible refine pkI (by assumption) ?_); walk_at "in47d"))); first | (with_reducible exact pk24 (by assumption)) | (with_reducible exact pk25 (by assumption)) | (with_reducible exact pk26 (by assumption)) | (with_reducible exact pk27 (by assumption)) | (with_reducible exact pk28 (by assumption)) | (with_reducible exact pk29 (by assumption)) | (with_reducible exact pk30 (by assumption)) | (with_reducible exact pk31 (by assumption))) | ((fail_if_success (fail_if_success ((with_reducible refine pkI (by assumption) ?_); walk_at "in47e"))); first | (with_reducible exact pk32 (by assumption)) | (with_reducible exact pk33 (by assumption)) | (with_reducible exact pk34 (by assumption)) | (with_reducible exact pk35 (by assumption)) | (with_reducible exact pk36 (by assumption)) | (with_reducible exact pk37 (by assumption)) | (with_reducible exact pk38 (by assumption)) | (with_reducible exact pk39 (by assumption)))))
  k_with "my ne47" => (first | (with_reducible exact Nat.ne_of_lt (by assumption)) | (with_reducible exact Nat.ne_of_gt (by assumption)) | ((with_reducible refine Nat.ne_of_lt ?_); walk_at "pk47") | ((with_reducible refine Nat.ne_of_gt ?_); walk_at "pk47") | ((with_reducible refine Nat.ne_of_gt ?_); (with_reducible refine ltTail ?_ (by assumption)); walk_at "pk47") | ((with_reducible refine Nat.ne_of_lt ?_); (with_reducible refine ltTail ?_ (by assumption)); walk_at "pk47") | ((with_reducible refine Nat.ne_of_lt ?_); walk_at "lt47") | ((with_reducible refine Nat.ne_of_gt ?_); walk_at "lt47") | omega)
  k_with "my k_ne" => ((refine neN ?_; (try dsimp only); walk_at "ne47"))
  k_with "my neR47" => ((refine neN ?_; (try dsimp only); first | ((with_reducible refine Nat.ne_of_gt ?_); first | walk_at "pk47" | walk_at "chain47" | ((with_reducible refine ltTail ?_ (by assumption)); walk_at "pk47")) | k_ne))
  k_with "my k_all" => (first | exact List.forall_mem_nil _ | (refine allLt_ne ?_; (try dsimp only [AllLt]); with_reducible assumption) | (refine' List.forall_mem_cons.mpr ⟨?a, ?b⟩; (case a => k_ne); (case b => k_all)))
  k_with "my k_upd" => (first | (refine' Upd.head ?a; (case a => k_all)) | (refine' Upd.tail ?a ?b; (case a => walk_at "neR47"); (case b => k_upd)))
  k_with "my k_updF" => (first | (refine' UpdF.head ?a; (case a => k_all)) | (refine' UpdF.tail ?a ?b; (case a => walk_at "neR47"); (case b => k_updF)))
  exact True.intro
theorem ne_nil {K : Frag} {h₀ h : Heap} {c b : Addr} {o : Obj} (X : K.In h₀) (e : K.lookup b = some o) (k : ∀ b o, h₀.get? b = some o → h.get? b = some o) (fc : h.get? c = none) : c ≠ b := by
  rintro rfl
  rw [k _ _ (X _ _ e)] at fc; cases fc
theorem use_lo1 (hh : A.handled = none) (hd : A.depth ≤ 590) (hu : A.units ≤ 1900) (hA : A.frames = some (envX cn cs L a ccd cl :: outer))
    (B : Below A₀ base outer h₀) (F : Fr h₀ L s.heap m) (K : (hd47.heap_39 w.params).In h₀) (T : Tp mg mb mean h₀) (hcs : cs.kind = .function) (N : News h₀ L s.heap news) (hq : (q, listOf #[x] n) ∈ news) (e44 : (hd47.heap_39 w.params).lookup 44 = some o44)
    (ret : ∀ c d t1 t2 h' tk', c ≠ 44 → Fr h₀ L h' m → News h₀ L h' ((c, instObj 65 d) :: (d, consD w x (.ref 44) t1 t2) :: news) → Q (.ref c) { s with heap := h', toks := tk' }) :
    wpAny (model PySem.Challenge.rw_ok0047_01.row.prog w) A (call (.ref 77) [.ref q]) Q E s := by
  refine use_ct (lo_ct (its := [x]) (N.get hq) (Nat.le_of_ble_eq_true rfl)) hh hd hu hA B F K T hcs (by simp) ?_
  rintro r h' tk' F' k ⟨c, d, _, t1, t2, rfl, fc, fd, ec, ed, rfl⟩
  exact ret c d t1 t2 h' tk' (ne_nil K e44 F.keep fc) F' (News.also (News.also (News.all N k) F fd ed) F fc ec)
theorem use_lo2 (hh : A.handled = none) (hd : A.depth ≤ 590) (hu : A.units ≤ 1900) (hA : A.frames = some (envX cn cs L a ccd cl :: outer))
    (B : Below A₀ base outer h₀) (F : Fr h₀ L s.heap m) (K : (hd47.heap_39 w.params).In h₀) (T : Tp mg mb mean h₀) (hcs : cs.kind = .function) (N : News h₀ L s.heap news) (hq : (q, listOf #[x, y] n) ∈ news) (e44 : (hd47.heap_39 w.params).lookup 44 = some o44)
    (ret : ∀ c d t1 t2 c2 d2 t3 t4 h' tk', c ≠ 44 → c2 ≠ 44 → Fr h₀ L h' m → News h₀ L h' ((c, instObj 65 d) :: (d, consD w x (.ref c2) t1 t2) :: (c2, instObj 65 d2) :: (d2, consD w y (.ref 44) t3 t4) :: news) → Q (.ref c) { s with heap := h', toks := tk' }) :
    wpAny (model PySem.Challenge.rw_ok0047_01.row.prog w) A (call (.ref 77) [.ref q]) Q E s := by
  refine use_ct (lo_ct (its := [x, y]) (N.get hq) (Nat.le_of_ble_eq_true rfl)) hh hd hu hA B F K T hcs (by simp) ?_
  rintro r h' tk' F' k ⟨c, d, _, t1, t2, rfl, fc, fd, ec, ed, c2, d2, _, t3, t4, rfl, fc2, fd2, ec2, ed2, rfl⟩
  exact ret c d t1 t2 c2 d2 t3 t4 h' tk' (ne_nil K e44 F.keep fc) (ne_nil K e44 F.keep fc2) F' (News.also (News.also (News.also (News.also (News.all N k) F fd2 ed2) F fc2 ec2) F fd ed) F fc ec)
theorem use_lo3 (hh : A.handled = none) (hd : A.depth ≤ 590) (hu : A.units ≤ 1900) (hA : A.frames = some (envX cn cs L a ccd cl :: outer))
    (B : Below A₀ base outer h₀) (F : Fr h₀ L s.heap m) (K : (hd47.heap_39 w.params).In h₀) (T : Tp mg mb mean h₀) (hcs : cs.kind = .function) (N : News h₀ L s.heap news) (hq : (q, listOf #[x, y, z] n) ∈ news) (e44 : (hd47.heap_39 w.params).lookup 44 = some o44)
    (ret : ∀ c d t1 t2 c2 d2 t3 t4 c3 d3 t5 t6 h' tk', c ≠ 44 → c2 ≠ 44 → c3 ≠ 44 → Fr h₀ L h' m → News h₀ L h' ((c, instObj 65 d) :: (d, consD w x (.ref c2) t1 t2) :: (c2, instObj 65 d2) :: (d2, consD w y (.ref c3) t3 t4) :: (c3, instObj 65 d3) :: (d3, consD w z (.ref 44) t5 t6) :: news) → Q (.ref c) { s with heap := h', toks := tk' }) :
    wpAny (model PySem.Challenge.rw_ok0047_01.row.prog w) A (call (.ref 77) [.ref q]) Q E s := by
  refine use_ct (lo_ct (its := [x, y, z]) (N.get hq) (Nat.le_of_ble_eq_true rfl)) hh hd hu hA B F K T hcs (by simp) ?_
  rintro r h' tk' F' k ⟨c, d, _, t1, t2, rfl, fc, fd, ec, ed, c2, d2, _, t3, t4, rfl, fc2, fd2, ec2, ed2, c3, d3, _, t5, t6, rfl, fc3, fd3, ec3, ed3, rfl⟩
  exact ret c d t1 t2 c2 d2 t3 t4 c3 d3 t5 t6 h' tk' (ne_nil K e44 F.keep fc) (ne_nil K e44 F.keep fc2) (ne_nil K e44 F.keep fc3) F' (News.also (News.also (News.also (News.also (News.also (News.also (News.all N k) F fd3 ed3) F fc3 ec3) F fd2 ed2) F fc2 ec2) F fd ed) F fc ec)
theorem use_cons (hh : A.handled = none) (hd : A.depth ≤ 700) (hu : A.units ≤ 3000) (hA : A.frames = some (envX cn cs L a ccd cl :: outer))
    (B : Below A₀ base outer h₀) (F : Fr h₀ L s.heap m) (K : (hd47.heap_39 w.params).In h₀) (T : Tp mg mb mean h₀) (hcs : cs.kind = .function) (N : News h₀ L s.heap news) (e44 : (hd47.heap_39 w.params).lookup 44 = some o44)
    (ret : ∀ c d t1 t2 h' tk', c ≠ 44 → Fr h₀ L h' m → News h₀ L h' ((c, instObj 65 d) :: (d, consD w x y t1 t2) :: news) → Q (.ref c) { s with heap := h', toks := tk' }) :
    wpAny (model PySem.Challenge.rw_ok0047_01.row.prog w) A (call (.ref 65) [x, y]) Q E s := by
  refine use_ct cons_ct hh hd hu hA B F K T hcs (by simp) ?_
  rintro r h' tk' F' k ⟨c, d, t1, t2, rfl, fc, fd, ec, ed⟩
  exact ret c d t1 t2 h' tk' (ne_nil K e44 F.keep fc) F' (News.also (News.also (News.all N k) F fd ed) F fc ec)
end
theorem item_any {prog : Program} {w : World} {A : Around} {E : Value → Shared → Prop} {s : Shared} {l : Addr} {vs : List Value} {Q : Value → Shared → Prop} {value slice : PySem.Expr} {k : Int} {u : Tok} {v : Value}
    (hl : s.heap.IsList l (List.toArray vs)) (h0 : 0 ≤ k) (hhi : k < 2 ^ 63) (hx : vs[k.toNat]? = some v) (h : Q v s)
    (hs : subscripted slice false (.ref l) (.int k u) = operate [.ref l, .int k u] (getItem (.ref l) (.int k u))) :
    wpAny (model prog w) A (subscriptTail value slice (.ref l) (.int k u)) Q E s :=
  tail_any hl.typeIs slot_list_getitem.lookup (wpAny_getItem_list hl h0 hhi (by simpa using hx) h) hs
def SymAt (w : World) (h : Heap) (a : Addr) (k : Int) (nm : Str) : Prop := ∃ d t1 t2 t3 t4, h.get? a = some (instObj 38 d) ∧ h.get? d = some (dictOf [⟨PyData.keyHash w.params (Str.ofString "number"), .str (Str.ofString "number") t1, .int k t2⟩, ⟨PyData.keyHash w.params (Str.ofString "name"), .str (Str.ofString "name") t3, .str nm t4⟩] 2)
def SymsAt (w : World) (h : Heap) (S : Addr) (a b c : Addr) : Prop := ∃ n, h.get? S = some (listOf #[.ref a, .ref b, .ref c] n) ∧ SymAt w h a 5 (Str.ofString "a") ∧ SymAt w h b 6 (Str.ofString "b") ∧ SymAt w h c 7 (Str.ofString "c") ∧ a ≠ b ∧ a ≠ c ∧ b ≠ c

theorem SymAt.up {w : World} {h h' : Heap} {a : Addr} {k : Int} {nm : Str} (x : SymAt w h a k nm) {X : List Addr} (kk : Kept X h h') (hX : ∀ p ∈ X, ∃ o, h.get? p = some o ∧ ∃ vs n, o = listOf vs n) : SymAt w h' a k nm := by
  obtain ⟨d, t1, t2, t3, t4, e1, e2⟩ := x
  refine ⟨d, t1, t2, t3, t4, kk _ _ e1 fun q => ?_, kk _ _ e2 fun q => ?_⟩
  · obtain ⟨o, e, vs, n, rfl⟩ := hX _ q; rw [e1] at e; cases e
  · obtain ⟨o, e, vs, n, rfl⟩ := hX _ q; rw [e2] at e; have := congrArg (fun o => o.map Obj.cls) e; simp at this
theorem SymsAt.up {w : World} {h h' : Heap} {S a b c : Addr} (x : SymsAt w h S a b c) {X : List Addr} (kk : Kept X h h') (hX : ∀ p ∈ X, ∃ o, h.get? p = some o ∧ ∃ v i t vs n, o = listOf (List.toArray (v :: .int i t :: vs)) n) : SymsAt w h' S a b c := by
  obtain ⟨n, e, ha, hb, hc, r⟩ := x
  have hX' : ∀ p ∈ X, ∃ o, h.get? p = some o ∧ ∃ vs n, o = listOf vs n := fun p hp => let ⟨o, e, v, i, t, vs, n, q⟩ := hX p hp; ⟨o, e, _, n, q⟩
  refine ⟨n, kk _ _ e fun q => ?_, ha.up kk hX', hb.up kk hX', hc.up kk hX', r⟩
  obtain ⟨o, e', v, i, t, vs, n', rfl⟩ := hX _ q; rw [e] at e'; cases e'
theorem PotAt.lst {h : Heap} {p l : Addr} (x : PotAt h p l) : ∀ q ∈ [p], ∃ o, h.get? q = some o ∧ ∃ v i t vs n, o = listOf (List.toArray (v :: .int i t :: vs)) n := fun q hq => by
  rw [List.mem_singleton.mp hq]
  obtain ⟨_, _, _, _, _, e, _⟩ := x
  exact ⟨_, e, _, _, _, _, _, rfl⟩
def symName (i : Int) : Str := if i = 0 then Str.ofString "a" else if i = 1 then Str.ofString "b" else Str.ofString "c"
def symRef (a b c : Addr) (i : Int) : Addr := if i = 0 then a else if i = 1 then b else c
theorem SymsAt.at {w : World} {h : Heap} {S a b c : Addr} (x : SymsAt w h S a b c) {i : Int} (h0 : 0 ≤ i) (h1 : i < 3) : [Value.ref a, .ref b, .ref c][i.toNat]? = some (.ref (symRef a b c i)) ∧ SymAt w h (symRef a b c i) (5 + i) (symName i) := by
  obtain ⟨n, e, ha, hb, hc, r⟩ := x
  have : i = 0 ∨ i = 1 ∨ i = 2 := by omega
  rcases this with rfl | rfl | rfl
  · exact ⟨rfl, ha⟩
  · exact ⟨rfl, hb⟩
  · exact ⟨rfl, hc⟩
theorem BpSym.up {h h' : Heap} {sy : Addr} (x : BpSym h sy) (k : ∀ b o, h.get? b = some o → h'.get? b = some o) : BpSym h' sy := let ⟨d, es, n, a, b⟩ := x; ⟨d, es, n, k _ _ a, k _ _ b⟩
theorem words11 : True := by
  k_with "my mine lo" => ((k_here; k_dflt (first
  | (refine' use_lo1 ?hh ?hd ?hu ?hA ?B ?F ?K ?T ?hcs ?N ?hq ?h4 ?_; (case hh => exact rfl); (case hA => exact rfl); (case hd => exact Nat.le_of_ble_eq_true rfl); (case hu => exact Nat.le_of_ble_eq_true rfl); (case B => k_asm); (case F => k_asm); (case K => k_asm); (case T => k_asm); (case hcs => first | exact rfl | assumption); (case N => k_asm); (case hq => k_mem); (case h4 => k_is); k_whole; intro c' d' t1' t2' h' tk' z1 F' N'; (try k_sweep))
  | (refine' use_lo2 ?hh ?hd ?hu ?hA ?B ?F ?K ?T ?hcs ?N ?hq ?h4 ?_; (case hh => exact rfl); (case hA => exact rfl); (case hd => exact Nat.le_of_ble_eq_true rfl); (case hu => exact Nat.le_of_ble_eq_true rfl); (case B => k_asm); (case F => k_asm); (case K => k_asm); (case T => k_asm); (case hcs => first | exact rfl | assumption); (case N => k_asm); (case hq => k_mem); (case h4 => k_is); k_whole; intro c' d' t1' t2' c2' d2' t3' t4' h' tk' z1 z2 F' N'; (try k_sweep))
  | (refine' use_lo3 ?hh ?hd ?hu ?hA ?B ?F ?K ?T ?hcs ?N ?hq ?h4 ?_; (case hh => exact rfl); (case hA => exact rfl); (case hd => exact Nat.le_of_ble_eq_true rfl); (case hu => exact Nat.le_of_ble_eq_true rfl); (case B => k_asm); (case F => k_asm); (case K => k_asm); (case T => k_asm); (case hcs => first | exact rfl | assumption); (case N => k_asm); (case hq => k_mem); (case h4 => k_is); k_whole; intro c' d' t1' t2' c2' d2' t3' t4' c3' d3' t5' t6' h' tk' z1 z2 z3 F' N'; (try k_sweep))
  | (refine' use_cons ?hh ?hd ?hu ?hA ?B ?F ?K ?T ?hcs ?N ?h4 ?_; (case hh => exact rfl); (case hA => exact rfl); (case hd => exact Nat.le_of_ble_eq_true rfl); (case hu => exact Nat.le_of_ble_eq_true rfl); (case B => k_asm); (case F => k_asm); (case K => k_asm); (case T => k_asm); (case hcs => first | exact rfl | assumption); (case N => k_asm); (case h4 => k_is); k_whole; intro c' d' t1' t2' h' tk' z1 F' N'; (try k_sweep)))))
  k_with "my call ref" => (first | walk_at "mine lo" | ((with_reducible show wpAny _ _ (call (Value.ref 202) _) _ _ _); refine Stop.out ?_))
  k_with "my mine bp" => (((case hh => exact rfl); (case hA => exact rfl); (case hd => exact Nat.le_of_ble_eq_true rfl); (case hu => exact Nat.le_of_ble_eq_true rfl); (case B => k_asm); (case F => k_asm); (case K => k_asm); (case T => k_asm); (case hcs => exact rfl); (case hX => intro x hx; cases hx)))
  k_with "my subscriptTail" => ((k_here; (with_reducible show wpAny _ _ (subscriptTail (Expr.Name (Str.ofString "symbols") _) _ (Value.ref _) (Value.int _ _)) _ _ _); refine Stop.out ?_))
  k_with "my compareOp Is ref ref" => ((k_here; (with_reducible refine wpAny_is_ref_self ?_)))
  exact True.intro
set_option maxHeartbeats 4000000 in
theorem bind_ct {w : World} {mg mb : Str → Option Value} {mean : ExcName → Option Value} {s : Shared} {p l S sa sb sc : Addr} (hp : PotAt s.heap p l) (hl : IntsAt s.heap l) (hS : SymsAt w s.heap S sa sb sc) :
    Ct w mg mb mean 500 1000 253 [.ref p, .ref S] s [p] (fun r h' => PotAt h' p l ∧ r = .bool true) := by
  have hpl := pot_ne hp hl
  have hpq := PotAt.lst hp
  obtain ⟨at', ta, x, tx, n, ho, h0, hx0, hx1⟩ := hp
  unfold Ct
  k_fill
  intro gd cn cs a ccd cl outer A₀ base h₀ L m Q E B F X T hcs hX hret
  have N : News h₀ L s.heap [(p, potO l at' ta x tx n)] := fun q hq => by
    rw [List.mem_singleton.mp hq]; exact ⟨ho, (hX p (.head _)).2, (hX p (.head _)).1⟩
  walk_at "mine enter"
  intro g L' h₁ FG F₁ N₁ BG XG TG kG; (try dsimp only)
  have hlg := hl.kept (X := [p]) kG (by simpa using Ne.symm hpl)
  have hSg := SymsAt.up hS (X := [p]) kG hpq
  clear hS
  k_steps
  refine Stop.mk ?_
  (rename (_ < (3 : Int)) => i3)
  obtain ⟨nS, eS, _⟩ := id hSg
  (rename Fr g _ _ _ => Fe)
  have sL : Heap.IsList _ S (List.toArray _) := ⟨_, Fe.keep _ _ eS, rfl, _, rfl⟩
  obtain ⟨ix, dy, y1, y2, y3, y4, f1, f2⟩ := SymsAt.at hSg (by assumption) i3
  refine item_any sL (by assumption) (by omega) ix ?_ (by with_unfolding_all rfl)
  generalize symRef sa sb sc _ = sy at ix f1 ⊢
  clear ix sL eS hSg
  have hbs : BpSym g sy := ⟨dy, _, _, f1, f2⟩
  clear f1 f2
  k_steps
  all_goals (
    refine Stop.mk ?_
    (rename News g _ _ _ => Ne); (rename Fr g _ _ _ => Fe)
    first
    | (refine' use_ct (bp_sym (BpSym.up hbs (Fr.keep Fe))) ?hh ?hd ?hu ?hA ?B ?F ?K ?T ?hcs ?hX ?_; (case hh => exact rfl); (case hA => exact rfl); (case hd => exact Nat.le_of_ble_eq_true rfl); (case hu => exact Nat.le_of_ble_eq_true rfl); (case B => k_asm); (case F => exact Fe); (case K => k_asm); (case T => k_asm); (case hcs => exact rfl); (case hX => intro x hx; cases hx))
    | (refine' use_ct (bp_one (sy := sy) (BpSym.up hbs (Fr.keep Fe)) (News.get Ne ?m1) (News.get Ne ?m2)) ?hh ?hd ?hu ?hA ?B ?F ?K ?T ?hcs ?hX ?_; (case m1 => k_mem); (case m2 => k_mem); (case hh => exact rfl); (case hA => exact rfl); (case hd => exact Nat.le_of_ble_eq_true rfl); (case hu => exact Nat.le_of_ble_eq_true rfl); (case B => k_asm); (case F => exact Fe); (case K => k_asm); (case T => k_asm); (case hcs => exact rfl); (case hX => intro x hx; cases hx))
    | (refine' use_ct (bp_two (sy := sy) (BpSym.up hbs (Fr.keep Fe)) ?z2 (News.get Ne ?m1) (News.get Ne ?m2) (News.get Ne ?m3) (News.get Ne ?m4)) ?hh ?hd ?hu ?hA ?B ?F ?K ?T ?hcs ?hX ?_; (case m1 => k_mem); (case m2 => k_mem); (case m3 => k_mem); (case m4 => k_mem); (case z2 => assumption); (case hh => exact rfl); (case hA => exact rfl); (case hd => exact Nat.le_of_ble_eq_true rfl); (case hu => exact Nat.le_of_ble_eq_true rfl); (case B => k_asm); (case F => exact Fe); (case K => k_asm); (case T => k_asm); (case hcs => exact rfl); (case hX => intro x hx; cases hx))
    | (refine' use_ct (bp_three (sy := sy) (BpSym.up hbs (Fr.keep Fe)) ?z2 ?z3 (News.get Ne ?m1) (News.get Ne ?m2) (News.get Ne ?m3) (News.get Ne ?m4) (News.get Ne ?m5)) ?hh ?hd ?hu ?hA ?B ?F ?K ?T ?hcs ?hX ?_; (case m1 => k_mem); (case m2 => k_mem); (case m3 => k_mem); (case m4 => k_mem); (case m5 => k_mem); (case z2 => assumption); (case z3 => assumption); (case hh => exact rfl); (case hA => exact rfl); (case hd => exact Nat.le_of_ble_eq_true rfl); (case hu => exact Nat.le_of_ble_eq_true rfl); (case B => k_asm); (case F => exact Fe); (case K => k_asm); (case T => k_asm); (case hcs => exact rfl); (case hX => intro x hx; cases hx))
    | (refine' use_ct (bp_int (sy := sy) (BpSym.up hbs (Fr.keep Fe))) ?hh ?hd ?hu ?hA ?B ?F ?K ?T ?hcs ?hX ?_; (case hh => exact rfl); (case hA => exact rfl); (case hd => exact Nat.le_of_ble_eq_true rfl); (case hu => exact Nat.le_of_ble_eq_true rfl); (case B => k_asm); (case F => exact Fe); (case K => k_asm); (case T => k_asm); (case hcs => exact rfl); (case hX => intro x hx; cases hx))
    | (refine' use_ct (bp_first (sy := sy) (BpSym.up hbs (Fr.keep Fe)) (News.get Ne ?m1) (News.get Ne ?m2)) ?hh ?hd ?hu ?hA ?B ?F ?K ?T ?hcs ?hX ?_; (case m1 => k_mem); (case m2 => k_mem); (case hh => exact rfl); (case hA => exact rfl); (case hd => exact Nat.le_of_ble_eq_true rfl); (case hu => exact Nat.le_of_ble_eq_true rfl); (case B => k_asm); (case F => exact Fe); (case K => k_asm); (case T => k_asm); (case hcs => exact rfl); (case hX => intro x hx; cases hx))
    | (refine' use_ct (bp_pair (sy := sy) (BpSym.up hbs (Fr.keep Fe)) (News.get Ne ?m1) (News.get Ne ?m2)) ?hh ?hd ?hu ?hA ?B ?F ?K ?T ?hcs ?hX ?_; (case m1 => k_mem); (case m2 => k_mem); (case hh => exact rfl); (case hA => exact rfl); (case hd => exact Nat.le_of_ble_eq_true rfl); (case hu => exact Nat.le_of_ble_eq_true rfl); (case B => k_asm); (case F => exact Fe); (case K => k_asm); (case T => k_asm); (case hcs => exact rfl); (case hX => intro x hx; cases hx))
    | (refine' use_ct (bp_dot (sy := sy) (BpSym.up hbs (Fr.keep Fe)) ?z2 (News.get Ne ?m1) (News.get Ne ?m2) (News.get Ne ?m3) (News.get Ne ?m4)) ?hh ?hd ?hu ?hA ?B ?F ?K ?T ?hcs ?hX ?_; (case m1 => k_mem); (case m2 => k_mem); (case m3 => k_mem); (case m4 => k_mem); (case z2 => assumption); (case hh => exact rfl); (case hA => exact rfl); (case hd => exact Nat.le_of_ble_eq_true rfl); (case hu => exact Nat.le_of_ble_eq_true rfl); (case B => k_asm); (case F => exact Fe); (case K => k_asm); (case T => k_asm); (case hcs => exact rfl); (case hX => intro x hx; cases hx))
    rintro r9 h9 tk9 F9 k9 P9
    have Np := News.sub1 (News.all Ne k9) (a := p) (o := potO _ _ _ _ _ _) (by k_mem)
    first
    | (obtain ⟨q9, rfl, fq9, n9, e9⟩ := P9; have Nq := News.also Np Fe fq9 e9; clear Np Ne Fe; try dsimp only)
    | (subst P9; clear Ne Fe; try dsimp only)
    k_steps
    (rename Fr g _ _ _ => Fz); (rename News g _ _ _ => Nz)
    refine hret _ _ _ (fun b o e n => Fz.keep b o (kG b o e n)) ⟨⟨_, _, _, _, _, Nz.get (o := potO _ _ _ _ _ _) (by k_mem), ?_, ?_, ?_⟩, ?_⟩
    (first | assumption | rfl)
    (first | assumption | rfl)
    (first | assumption | rfl)
    (first | rfl | (simp; done)))
end

section
theorem calm14 : True := by
  w_top off
  exact True.intro
abbrev tupF (t : Tok) (v wv : Value) (n : Nat) : Obj := { cls := .type "tuple", data := .seq #[.str (Str.ofString "form") t, v, wv] n }
theorem words12 : True := by
  k_with_none
  k_with "my k_room" => (first | exact Nat.le_of_ble_eq_true rfl | (simp only [depth_under_make, depth_under_kw, depth_in1, depth_deeper, depth_caller, recursionLimit] at *; omega))
  k_with "my eval ListComp" => (((fail_if_success (rename LibOk => x9)); refine Stop.out ?_))
  k_with "my exec Assign cons ListComp" => (((fail_if_success (rename LibOk => x9)); refine Stop.out ?_))
  k_with "my mine enter" => ((
  refine wpAny_call ?_
  first
  | (refine' code_defG ?k1 ?k2 ?k3 ?k4 ?k5 ?kA ?kF ?kK ?k6 ?k7 ?k8 ?k9 ?kB ?_ ?c2 ?c3 ?c4 ?c5; (case kA => exact rfl); (case kF => exact rfl); (case kK => first | exact rfl | assumption); (case k1 => k_asm); (case k2 => k_asm); (case k3 => k_asm); (case k4 => k_asm); (case k5 => k_asm); (case k6 => k_is); (case k7 => k_is); (case k8 => k_room); (case k9 => first | exact BindsTo.of_eq rfl | exact binds_K (by k_in) rfl (by k_is) rfl rfl rfl | fail "mine enter: binds"); (case c5 => decide); (case kB => exact locs rfl); (case c2 => exact rfl); (case c3 => exact rfl); (case c4 => exact rfl); k_whole)
  | (refine' code_defCG ?k1 ?k2 ?k3 ?k4 ?k5 ?kA ?kF ?kK ?k6 ?k7 ?k8 ?k9 ?kB ?kD ?_ ?c2 ?c3 ?c4; (case kA => exact rfl); (case kF => exact rfl); (case kK => first | exact rfl | assumption); (case k1 => k_asm); (case k2 => k_asm); (case k3 => k_asm); (case k4 => k_asm); (case k5 => k_asm); (case k6 => k_is); (case k7 => k_is); (case k8 => k_room); (case k9 => first | exact BindsTo.of_eq rfl | exact binds_K (by k_in) rfl (by k_is) rfl rfl rfl | fail "mine enter: binds"); (case kB => exact rfl); (case kD => decide +kernel); (case c2 => exact rfl); (case c3 => exact rfl); (case c4 => exact rfl); k_whole)))
  k_with "my mine dip" => ((k_here; k_dflt (refine' use_dip ?hh ?hd ?hu ?hA ?B ?F ?K ?T ?hcs ?N ?V ?h0 ?hx0 ?hx1 ?hl ?hk ?_; (case hh => exact rfl); (case hA => exact rfl); (case hd => first | exact Nat.le_of_ble_eq_true rfl | (simp only [depth_in1, depth_deeper]; omega)); (case hu => first | exact Nat.le_of_ble_eq_true rfl | (simp only [units_in1, units_deeper]; omega)); (case B => k_asm); (case F => k_asm); (case K => k_asm); (case T => k_asm); (case hcs => first | exact rfl | assumption); (case N => k_asm); (case V => k_updF); (case h0 => assumption); (case hx0 => assumption); (case hx1 => assumption); (case hl => (refine' IntsAt.up ?ha (Fr.keep ?hb); (case hb => k_asm); (case ha => k_asm))); (case hk => decide); k_whole); intro i' t' at' ta' x' tx' n' h' tk' b0 b1 b2 b3 b4 F' N'; (try dsimp only at N'); (try k_sweep)))
  k_with "my call ref" => (first | walk_at "mine dip" | ((with_reducible show wpAny _ _ (call (Value.ref 168) _) _ _ _); refine Stop.out ?_) | ((with_reducible show wpAny _ _ (call (Value.ref 188) _) _ _ _); refine Stop.out ?_) | ((with_reducible show wpAny _ _ (call (Value.ref 224) _) _ _ _); refine Stop.out ?_) | ((with_reducible show wpAny _ _ (call (Value.ref 229) _) _ _ _); refine Stop.out ?_) | ((with_reducible show wpAny _ _ (call (Value.ref 236) _) _ _ _); refine Stop.out ?_) | ((with_reducible show wpAny _ _ (call (Value.ref 77) _) _ _ _); refine Stop.out ?_) | ((with_reducible show wpAny _ _ (call (Value.ref 65) _) _ _ _); refine Stop.out ?_) | ((with_reducible show wpAny _ _ (call (Value.ref 241) _) _ _ _); refine Stop.out ?_) | ((with_reducible show wpAny _ _ (call (Value.ref 246) _) _ _ _); refine Stop.out ?_) | ((with_reducible show wpAny _ _ (call (Value.ref 253) _) _ _ _); refine Stop.out ?_) | ((with_reducible show wpAny _ _ (call (Value.ref 105) _) _ _ _); refine Stop.out ?_))
  k_with "my mine ct" => (((rename Ct _ _ _ _ _ _ _ _ _ _ _ => hCt); k_dflt (refine' use_ct hCt ?hh ?hd ?hu ?hA ?B ?F ?K ?T ?hcs ?hX ?_; (case hh => exact rfl); (case hA => exact rfl); (case hd => first | exact Nat.le_of_ble_eq_true rfl | (simp only [depth_in1, depth_deeper]; omega)); (case hu => first | exact Nat.le_of_ble_eq_true rfl | (simp only [units_in1, units_deeper]; omega)); (case B => k_asm); (case F => k_asm); (case K => k_asm); (case T => k_asm); (case hcs => first | exact rfl | assumption); (case hX => first | exact News.inX (by k_asm) (by k_mem) | assumption | (intro x hx; cases hx)))))
  k_with "my storeName" => ((k_here; k_dflt (first | (refine' stK ?F ?N ?_ ?a ?b; (case F => k_asm); (case N => k_asm); (case a => rfl); (case b => rfl); k_whole; intro h' F' N' kS'; (try k_sweep)) | (refine' stC ?F ?N ?c ?U ?d ?_ ?a ?b; (case a => rfl); (case b => rfl); (case F => k_asm); (case N => k_asm); (case c => rfl); (case U => k_updF); (case d => k_asm); k_whole; intro h' o' F' N' d' kS'; (try dsimp only at N'); (try k_sweep)))))
  k_with "my compareOp Is ref ref" => ((k_here; (with_reducible show wpAny _ _ (compareOp CmpOp.Is (Value.ref _) (Value.ref _)) _ _ _); k_dflt (refine' kto_is ?a ?b ?n ?c ?_; (case a => first | kto_obj | (refine' gr_get ?F ?e; (case F => k_asm); (case e => with_reducible assumption))); (case b => first | kto_obj | (refine' gr_get ?F ?e; (case F => k_asm); (case e => with_reducible assumption))); (case n => first | assumption | exact Ne.symm (by assumption) | kto_ne); (case c => kto_not); k_whole)))
  k_with "my compareOp IsNot ref ref" => ((k_here; (with_reducible show wpAny _ _ (compareOp CmpOp.IsNot (Value.ref _) (Value.ref _)) _ _ _); k_dflt (refine' kto_isnot ?a ?b ?n ?c ?_; (case a => first | kto_obj | (refine' gr_get ?F ?e; (case F => k_asm); (case e => with_reducible assumption))); (case b => first | kto_obj | (refine' gr_get ?F ?e; (case F => k_asm); (case e => with_reducible assumption))); (case n => first | assumption | exact Ne.symm (by assumption) | kto_ne); (case c => kto_not); k_whole)))
  k_with "my compareOp Is int ref" => ((k_here; refine wpAny_is_other (by rfl) (by intro x; cases x) ?_))
  k_with "my compareOp IsNot int ref" => ((k_here; refine wpAny_isNot_other (by rfl) (by intro x; cases x) ?_))
  k_with "my compareOp Is ref int" => ((k_here; refine wpAny_is_other (by rfl) (by intro x; cases x) ?_))
  k_with "my compareOp IsNot ref int" => ((k_here; refine wpAny_isNot_other (by rfl) (by intro x; cases x) ?_))
  k_with "my newTuple" => (((rename RawTup => rt9); refine Stop.out ?_))
  k_with "my execs cons" => (((with_reducible show wpAny _ _ _ _ _ _); k_fold; refine wpAny_execs_cons ?_))
  k_with "my chain47" => (first | (with_reducible assumption) | ((with_reducible refine Nat.lt_trans (by assumption) ?_); walk_at "chain47"))
  k_with "my lt47" => (first | (with_reducible assumption) | (with_reducible exact Nat.lt_add_one _) | (with_reducible exact Nat.lt_trans (Nat.lt_add_one _) (Nat.lt_add_one _)) | ((fail_if_success (fail_if_success (with_reducible refine pkG (by assumption) ?_))); first | (with_reducible exact pk0 (by assumption)) | (with_reducible exact pk1 (by assumption)) | (with_reducible exact pk2 (by assumption)) | (with_reducible exact pk3 (by assumption)) | (with_reducible exact pk4 (by assumption)) | (with_reducible exact pk5 (by assumption)) | (with_reducible exact pk6 (by assumption)) | (with_reducible exact pk7 (by assumption)) | (with_reducible exact pk8 (by assumption)) | (with_reducible exact pk9 (by assumption)) | (with_reducible exact pk10 (by assumption)) | (with_reducible exact pk11 (by assumption)) | (with_reducible exact pk12 (by assumption)) | (with_reducible exact pk13 (by assumption)) | (with_reducible exact pk14 (by assumption)) | (with_reducible exact pk15 (by assumption)) | (with_reducible exact pk16 (by assumption)) | (with_reducible exact pk17 (by assumption)) | (with_reducible exact pk18 (by assumption)) | (with_reducible exact pk19 (by assumption))) | walk_at "chain47" | ((with_reducible refine Nat.lt_trans (Nat.lt_add_one _) ?_); walk_at "chain47") | ((with_reducible refine Nat.lt_trans (Nat.lt_trans (Nat.lt_add_one _) (Nat.lt_add_one _)) ?_); walk_at "chain47"))
  k_with "my in47a" => (first | (with_reducible exact pk0) | (with_reducible exact pk1) | (with_reducible exact pk2) | (with_reducible exact pk3) | (with_reducible exact pk4) | (with_reducible exact pk5) | (with_reducible exact pk6) | (with_reducible exact pk7))
  k_with "my in47b" => (first | (with_reducible exact pk8) | (with_reducible exact pk9) | (with_reducible exact pk10) | (with_reducible exact pk11) | (with_reducible exact pk12) | (with_reducible exact pk13) | (with_reducible exact pk14) | (with_reducible exact pk15))
  k_with "my in47c" => (first | (with_reducible exact pk16) | (with_reducible exact pk17) | (with_reducible exact pk18) | (with_reducible exact pk19) | (with_reducible exact pk20) | (with_reducible exact pk21) | (with_reducible exact pk22) | (with_reducible exact pk23))
  k_with "my in47d" => (first | (with_reducible exact pk24) | (with_reducible exact pk25) | (with_reducible exact pk26) | (with_reducible exact pk27) | (with_reducible exact pk28) | (with_reducible exact pk29) | (with_reducible exact pk30) | (with_reducible exact pk31))
  k_with "my in47e" => (first | (with_reducible exact pk32) | (with_reducible exact pk33) | (with_reducible exact pk34) | (with_reducible exact pk35) | (with_reducible exact pk36) | (with_reducible exact pk37) | (with_reducible exact pk38) | (with_reducible exact pk39))
  k_with "my pk47" => (((fail_if_success (fail_if_success (with_reducible refine pkG (by assumption) ?_))); first | ((fail_if_success (fail_if_success ((with_reducible refine pkI (by assumption) ?_); walk_at "in47a"))); first | (with_reducible exact pk0 (by assumption)) | (with_reducible exact pk1 (by assumption)) | (with_reducible exact pk2 (by assumption)) | (with_reducible exact pk3 (by assumption)) | (with_reducible exact pk4 (by assumption)) | (with_reducible exact pk5 (by assumption)) | (with_reducible exact pk6 (by assumption)) | (with_reducible exact pk7 (by assumption))) | ((fail_if_success (fail_if_success ((with_reducible refine pkI (by assumption) ?_); walk_at "in47b"))); first | (with_reducible exact pk8 (by assumption)) | (with_reducible exact pk9 (by assumption)) | (with_reducible exact pk10 (by assumption)) | (with_reducible exact pk11 (by assumption)) | (with_reducible exact pk12 (by assumption)) | (with_reducible exact pk13 (by assumption)) | (with_reducible exact pk14 (by assumption)) | (with_reducible exact pk15 (by assumption))) | ((fail_if_success (fail_if_success ((with_reducible refine pkI (by assumption) ?_); walk_at "in47c"))); first | (with_reducible exact pk16 (by assumption)) | (with_reducible exact pk17 (by assumption)) | (with_reducible exact pk18 (by assumption)) | (with_reducible exact pk19 (by assumption)) | (with_reducible exact pk20 (by assumption)) | (with_reducible exact pk21 (by assumption)) | (with_reducible exact pk22 (by assumption)) | (with_reducible exact pk23 (by assumption))) | ((fail_if_success (fail_if_success ((with_reducible refine pkI (by assumption) ?_); walk_at "in47d"))); first | (with_reducible exact pk24 (by assumption)) | (with_reducible exact pk25 (by assumption)) | (with_reducible exact pk26 (by assumption)) | (with_reducible exact pk27 (by assumption)) | (with_reducible exact pk28 (by assumption)) | (with_reducible exact pk29 (by assumption)) | (with_reducible exact pk30 (by assumption)) | (with_reducible exact pk31 (by assumption))) | ((fail_if_success (fail_if_success ((with_reducible refine pkI (by assumption) ?_); walk_at "in47e"))); first | (with_reducible exact pk32 (by assumption)) | (with_reducible exact pk33 (by assumption)) | (with_reducible exact pk34 (by assumption)) | (with_reducible exact pk35 (by assumption)) | (with_reducible exact pk36 (by assumption)) | (with_reducible exact pk37 (by assumption)) | (with_reducible exact pk38 (by assumption)) | (with_reducible exact pk39 (by assumption)))))
  k_with "my ne47" => (first | (with_reducible exact Nat.ne_of_lt (by assumption)) | (with_reducible exact Nat.ne_of_gt (by assumption)) | ((with_reducible refine Nat.ne_of_lt ?_); walk_at "pk47") | ((with_reducible refine Nat.ne_of_gt ?_); walk_at "pk47") | ((with_reducible refine Nat.ne_of_gt ?_); (with_reducible refine ltTail ?_ (by assumption)); walk_at "pk47") | ((with_reducible refine Nat.ne_of_lt ?_); (with_reducible refine ltTail ?_ (by assumption)); walk_at "pk47") | ((with_reducible refine Nat.ne_of_lt ?_); walk_at "lt47") | ((with_reducible refine Nat.ne_of_gt ?_); walk_at "lt47") | omega)
  k_with "my k_ne" => ((refine neN ?_; (try dsimp only); walk_at "ne47"))
  k_with "my neR47" => ((refine neN ?_; (try dsimp only); first | ((with_reducible refine Nat.ne_of_gt ?_); first | walk_at "pk47" | walk_at "chain47" | ((with_reducible refine ltTail ?_ (by assumption)); walk_at "pk47")) | k_ne))
  k_with "my k_all" => (first | exact List.forall_mem_nil _ | (refine allLt_ne ?_; (try dsimp only [AllLt]); with_reducible assumption) | (refine' List.forall_mem_cons.mpr ⟨?a, ?b⟩; (case a => k_ne); (case b => k_all)))
  k_with "my k_upd" => (first | (refine' Upd.head ?a; (case a => k_all)) | (refine' Upd.tail ?a ?b; (case a => walk_at "neR47"); (case b => k_upd)))
  k_with "my k_updF" => (first | (refine' UpdF.head ?a; (case a => k_all)) | (refine' UpdF.tail ?a ?b; (case a => walk_at "neR47"); (case b => k_updF)))
  exact True.intro
set_option maxHeartbeats 4000000 in
theorem ft_ct {w : World} {mg mb : Str → Option Value} {mean : ExcName → Option Value} {s : Shared} {v wv : Value} :
    Ct w mg mb mean 700 3000 168 [v, wv] s [] (fun r h' => ∃ a t n, r = .ref a ∧ s.heap.get? a = none ∧ h'.get? a = some (tupF t v wv n)) := by
  unfold Ct
  k_fill
  intro gd cn cs a ccd cl outer A₀ base h₀ L m Q E B F X T hcs hX hret
  have N : News h₀ L s.heap [] := News.nil
  walk_at "mine enter"
  intro g L' h₁ FG F₁ N₁ BG XG TG kG; (try dsimp only)
  k_steps
  (rename Fr g _ _ _ => Fe); (rename News g _ _ _ => Ne)
  exact hret _ _ _ (fun b o e n => Fe.keep b o (kG b o e n)) ⟨_, _, _, rfl, GSub.fresh kG (by simp) (News.fresh Ne (List.Mem.head _)), Ne.get (List.Mem.head _)⟩

section
variable {prog : Program} {w : World} {A : Around} {E : Value → Shared → Prop} {env : Env} {s : Shared}
def TupR (N : Addr → Prop) (h : Heap) (wv v y : Value) : Prop := ∃ a t n, y = .ref a ∧ N a ∧ h.get? a = some (tupF t v wv n)
theorem TupR.mono {N N' : Addr → Prop} {h h' : Heap} {wv v y : Value} (k : ∀ a o, N a → h.get? a = some o → N' a ∧ h'.get? a = some o) (x : TupR N h wv v y) : TupR N' h' wv v y :=
  let ⟨a, t, n, e, p, q⟩ := x; ⟨a, t, n, e, (k _ _ p q).1, (k _ _ p q).2⟩
def TupElt (prog : Program) (w : World) (A : Around) (env : Env) (scope : Scope) (cl : List (Str × Addr)) (x : Str) (elt : Expr) (wv : Value) (its : List Value) (s : Shared) : Prop :=
  ∀ C s₃ m₃ v E', v ∈ its → s₃.heap.Ns C m₃ → m₃ x = some v → Kept [] s.heap s₃.heap →
    wpAny (model prog w) A (eval elt (compEnvC scope cl C env)) (fun y s₄ => ∃ h₄ tk₄, s₄ = { s₃ with heap := h₄, toks := tk₄ } ∧ Kept [] s₃.heap h₄ ∧ ∃ a t n, y = .ref a ∧ s₃.heap.get? a = none ∧ h₄.get? a = some (tupF t v wv n)) E' s₃
theorem tups_turn {scope : Scope} {cl : List (Str × Addr)} {x : Str} {elt : Expr} {wv : Value} {its : List Value} (he : TupElt prog w A env scope cl x elt wv its s) (C : Addr) (N : Addr → Prop) (j : Nat) (v : Value) (ys : List Value) (s₃ : Shared) (m₃ : Str → Option Value)
    (hv : its[j]? = some v) (hJ : Paired (TupR N s₃.heap wv) (its.take j) ys) (hn : s₃.heap.Ns C m₃) (hm : m₃ x = some v) (hK : Kept [] s.heap s₃.heap) (hN : ∀ a, s₃.heap.get? a = none → a ∉ ([] : List Addr) → N a) :
    TurnJ prog w A [] elt (compEnvC scope cl C env) [] (fun i ys h => Paired (TupR N h wv) (its.take i) ys) j ys s₃ := by
  intro E'
  refine wpAny_tests_nil ?_
  rw [if_pos rfl]
  refine wpAny_mono (he C s₃ m₃ v E' (List.mem_of_getElem? hv) hn hm hK) ?_ fun _ _ e => e
  rintro y s₄ ⟨h₄, tk₄, rfl, k₄, a, t, n, rfl, fa, ea⟩
  refine ⟨h₄, tk₄, rfl, k₄, ?_⟩
  show Paired (TupR N h₄ wv) (its.take (j + 1)) (ys ++ [.ref a])
  rw [List.take_add_one, hv]
  exact Paired.snoc (paired_mono (fun _ _ => TupR.mono fun a o na e => ⟨na, k₄ _ _ e (by simp)⟩) hJ) ⟨a, t, n, rfl, hN a fa (by simp), ea⟩
theorem tupsE {scope : Scope} {cl : List (Str × Addr)} {x : Str} {elt : Expr} {Q : Value → Shared → Prop} {r : Addr} {its : List Value} {wv : Value} (hh : A.handled = none) (hr : s.heap.IsList r (List.toArray its)) (h1 : its.length ≤ sizeLine)
    (he : TupElt prog w A env scope cl x elt wv its s)
    (fin : ∀ D h' tk ys nD, s.heap.get? D = none → h'.get? D = some (listOf (List.toArray ys) nD) → Kept [] s.heap h' → Paired (TupR (fun a => s.heap.get? a = none ∧ a ≠ D) h' wv) its ys → Q (.ref D) { s with heap := h', toks := tk }) :
    Stop (wpAny (model prog w) A (pyIter (.ref r)) (fun it s₂ => ∃ I, it = .ref I ∧ Nonempty (CompAsk prog w A env scope cl x [] elt [] (EndE Q s₂) I s₂)) E s) := by
  refine listE [] (fun N i ys h => Paired (TupR N h wv) (its.take i) ys) (fun _ => False) hh hr (by simp) h1 (by simp) (by simp) ?_ ?_ ?_ ?_
  · intro N h k; exact .nil
  · intro N N' i ys h h' a b c; exact paired_mono (fun _ _ => TupR.mono fun a o na e => ⟨b a na, c a o (.inl na) e⟩) a
  · intro C N j v ys s₃ m₃ hv hJ hn hm hC hK hN hNX
    exact tups_turn he C N j v ys s₃ m₃ hv hJ hn hm hK hN
  · rintro D h' tk ys hD ⟨nD, eD⟩ hlen hJ hK
    exact fin D h' tk ys nD hD eD hK (by simpa using hJ)
theorem tupsA {scope : Scope} {cl : List (Str × Addr)} {x y : Str} {elt : Expr} {Q : Flow → Shared → Prop} {r : Addr} {its : List Value} {wv : Value} {m : Str → Option Value} (hh : A.handled = none) (hr : s.heap.IsList r (List.toArray its)) (h1 : its.length ≤ sizeLine)
    (hL : s.heap.Ns env.locals m) (he : TupElt prog w A env scope cl x elt wv its s)
    (fin : ∀ D h' tk ys nD, s.heap.get? D = none → h'.get? D = some (listOf (List.toArray ys) nD) → h'.Ns env.locals (fun z => if z = y then some (.ref D) else m z) → Kept [env.locals] s.heap h' → Paired (TupR (fun a => s.heap.get? a = none ∧ a ≠ D) h' wv) its ys → Q .next { s with heap := h', toks := tk }) :
    Stop (wpAny (model prog w) A (pyIter (.ref r)) (fun it s₂ => ∃ I m, it = .ref I ∧ s₂.heap.Ns env.locals m ∧ ∃ c : CompAsk prog w A env scope cl x [] elt [] (EndA Q env.locals m y s₂) I s₂, env.locals ∉ c.wr) E s) := by
  refine listA [] (fun N i ys h => Paired (TupR N h wv) (its.take i) ys) (fun _ => False) hh hr (by simp) h1 (by simp) (by simp) hL (by simp) ?_ ?_ ?_ ?_
  · intro N h k; exact .nil
  · intro N N' i ys h h' a b c; exact paired_mono (fun _ _ => TupR.mono fun a o na e => ⟨b a na, c a o (.inl na) e⟩) a
  · intro C N j v ys s₃ m₃ hv hJ hn hm hC hK hN hNX
    exact tups_turn he C N j v ys s₃ m₃ hv hJ hn hm hK hN
  · rintro D h' tk ys hD ⟨nD, eD⟩ hlen hJ hns hK
    exact fin D h' tk ys nD hD eD hns hK (by simpa using hJ)
end
end
section
/-- the tuples stand in a ledger -/
def TupIn (led : List (Addr × Obj)) (wv v y : Value) : Prop := ∃ a t n, y = .ref a ∧ (a, tupF t v wv n) ∈ led
theorem TupIn.mono {led led' : List (Addr × Obj)} {wv v y : Value} (k : ∀ p ∈ led, p ∈ led') (x : TupIn led wv v y) : TupIn led' wv v y := let ⟨a, t, n, e, m⟩ := x; ⟨a, t, n, e, k _ m⟩
theorem tups_led {N : Addr → Prop} {h h₀ : Heap} {L : Addr} {wv : Value} (hN : ∀ a, N a → a ≠ L ∧ h₀.get? a = none) : ∀ {vs ys : List Value}, Paired (TupR N h wv) vs ys → ∃ rest, News h₀ L h rest ∧ Paired (TupIn rest wv) vs ys
  | _, _, .nil => ⟨[], News.nil, .nil⟩
  | _, _, .cons (b := y) ⟨a, t, n, e, p, q⟩ r => by
    obtain ⟨rest, hr, hp⟩ := tups_led hN r
    refine ⟨(a, tupF t _ wv n) :: rest, ?_, .cons ⟨a, t, n, e, .head _⟩ (paired_mono (fun _ _ => TupIn.mono fun _ h => .tail _ h) hp)⟩
    exact News.cons (fun z hz => by rw [List.mem_singleton.mp hz]; exact ⟨q, hN a p⟩) hr
theorem tups_of {h h₀ : Heap} {L : Addr} {led : List (Addr × Obj)} {wv : Value} (N : News h₀ L h led) {vs ys : List Value} (x : Paired (TupIn led wv) vs ys) : Paired (TupR (fun a => h₀.get? a = none) h wv) vs ys :=
  paired_mono (fun _ _ ⟨a, t, n, e, m⟩ => ⟨a, t, n, e, (N _ m).2.2, (N _ m).1⟩) x
end

section
theorem calm15 : True := by
  w_top off
  exact True.intro
def BtPost (s : Shared) (ps : List Int) (n1 : Int) (wv : Value) (r : Value) (h' : Heap) : Prop :=
  ∃ D vs ys nD a t t1 n, r = .ref D ∧ s.heap.get? D = none ∧ h'.get? D = some (listOf (List.toArray (ys ++ [.ref a])) nD) ∧ IntsAre vs ps ∧ Paired (TupR (fun a => s.heap.get? a = none) h' (.bool false)) vs ys ∧ s.heap.get? a = none ∧ h'.get? a = some (tupF t (.int n1 t1) wv n)
theorem words13 : True := by
  k_with "my mine ft" => ((k_dflt (refine' use_ct ft_ct ?hh ?hd ?hu ?hA ?B ?F ?K ?T ?hcs ?hX ?_; (case hh => exact rfl); (case hA => exact rfl); (case hd => exact Nat.le_of_ble_eq_true rfl); (case hu => exact Nat.le_of_ble_eq_true rfl); (case B => k_asm); (case F => k_asm); (case K => k_asm); (case T => k_asm); (case hcs => first | exact rfl | assumption); (case hX => intro x hx; cases hx))))
  exact True.intro
set_option maxHeartbeats 4000000 in
theorem bt_more {w : World} {mg mb : Str → Option Value} {mean : ExcName → Option Value} {s : Shared} {q : Addr} {pre : List Value} {ps : List Int} {n1 : Int} {t1 : Tok} {nq : Nat} {b : Bool} (hq : s.heap.get? q = some (listOf (List.toArray (pre ++ [.int n1 t1])) nq)) (hp : IntsAre pre ps) (hl : pre.length ≤ 3) :
    Ct w mg mb mean 590 1900 188 [.ref q, .bool b] s [] (BtPost s ps n1 (.bool b)) := by
  unfold Ct
  k_fill
  intro gd cn cs a ccd cl outer A₀ base h₀ L m Q E B F X T hcs hX hret
  have N : News h₀ L s.heap [] := News.nil
  walk_at "mine enter"
  intro g L' h₁ FG F₁ N₁ BG XG TG kG; (try dsimp only)
  have hlg : g.IsList q (List.toArray (pre ++ [.int n1 t1])) := ⟨_, kG _ _ hq (by simp), rfl, _, rfl⟩
  have hI : IntsAre (pre ++ [.int n1 t1]) (ps ++ [n1]) := IntsAre.app hp (.cons _ _ .nil)
  k_steps
  all_goals try (exfalso; (rename (decide _ = true) => hd9); simp at hd9; done)
  refine Stop.mk ?_
  refine ListCompJ [] (by with_unfolding_all rfl) (by decide) (by with_unfolding_all rfl) (by decide) (by with_unfolding_all rfl) (by intro _; with_unfolding_all rfl) ?_
  k_steps
  (rename Fr g _ _ _ => Fe); (rename News g _ _ _ => Ne); (rename IntsAre _ (List.take _ _) => hW)
  have e1 : List.take ((ps ++ [n1]).length - 1) (ps ++ [n1]) = ps := by simp
  rw [e1] at hW
  have lW := IntsAre.length hW
  have lp := IntsAre.length hp
  refine tupsE (wv := .bool false) (by rfl) ⟨_, Ne.get (List.Mem.head _), rfl, _, rfl⟩ (by unfold sizeLine; omega) ?_ ?_
  · intro C s₃ m₃ v E' hv hn hm hK
    have F₃ := Fr.kept Fe hK (by simp)
    have N₃ : News g L' s₃.heap [] := News.nil
    clear Fe Ne
    k_steps
    refine Stop.mk ?_
    walk_at "mine ft"
    rintro r h' tk' F' hk' ⟨c, t, n, rfl, fc, ec⟩
    exact ⟨_, _, rfl, hk', c, t, n, rfl, fc, ec⟩
  · intro D h' tk ys nD hD eD hK hT
    have F₄ := Fr.kept Fe hK (by simp)
    have nD' := Fr.new Fe hD
    obtain ⟨rest, hr, hT'⟩ := tups_led (L := L') (h₀ := g) (fun a (na : _ ∧ _) => Fr.new Fe na.1) hT
    have N₄ : News g L' h' ((D, listOf (List.toArray ys) nD) :: rest) := News.cons (fun p hp => by rw [List.mem_singleton.mp hp]; exact ⟨eD, nD'⟩) hr
    clear Fe Ne hT hr
    have l9 := Paired.length hT'
    try dsimp only
    k_steps
    refine Stop.mk ?_
    walk_at "mine ft"
    rintro r h5 tk5 F5 hk5 ⟨c, t, n, rfl, fc, ec⟩
    have N₅ := News.also (News.all N₄ hk5) F₄ fc ec
    have e8 : ys.length ≤ 3 := by omega
    clear N₄ F₄
    try dsimp only
    k_steps
    (rename Fr g _ _ _ => Fe); (rename News g _ _ _ => Ne)
    have NR : News g L' _ rest := fun p hp => Ne p (by simp [hp])
    have hT2 := tups_of NR hT'
    exact hret _ _ _ (fun b o e n => Fe.keep b o (kG b o e n)) ⟨_, _, ys, _, c, t, _, n, rfl, GSub.fresh kG (by simp) (News.fresh Ne (List.Mem.head _)), Ne.get (List.Mem.head _), hW, paired_mono (fun _ _ => TupR.mono fun a o na e => ⟨GSub.fresh kG (by simp) na, e⟩) hT2,
      GSub.fresh kG (by simp) (News.fresh Ne (List.Mem.tail _ (List.Mem.tail _ (List.Mem.head _)))), Ne.get (List.Mem.tail _ (List.Mem.tail _ (List.Mem.head _)))⟩
abbrev tupC (t : Tok) (n : Nat) : Obj := { cls := .type "tuple", data := .seq #[.str (Str.ofString "constant") t, .ref 44, .bool true] n }
set_option maxHeartbeats 4000000 in
theorem bt_none {w : World} {mg mb : Str → Option Value} {mean : ExcName → Option Value} {s : Shared} {q : Addr} {nq : Nat} (hq : s.heap.get? q = some (listOf #[] nq)) :
    Ct w mg mb mean 590 1900 188 [.ref q, .bool true] s [] (fun r h' => ∃ D nD a t n, r = .ref D ∧ s.heap.get? D = none ∧ h'.get? D = some (listOf #[.ref a] nD) ∧ s.heap.get? a = none ∧ h'.get? a = some (tupC t n)) := by
  unfold Ct
  k_fill
  intro gd cn cs a ccd cl outer A₀ base h₀ L m Q E B F X T hcs hX hret
  have N : News h₀ L s.heap [] := News.nil
  walk_at "mine enter"
  intro g L' h₁ FG F₁ N₁ BG XG TG kG; (try dsimp only)
  have hlg : g.IsList q (List.toArray []) := ⟨_, kG _ _ hq (by simp), rfl, _, rfl⟩
  have hI : IntsAre [] [] := IntsAre.nil
  k_steps
  all_goals try (exfalso; (rename (decide _ = false) => hd9); simp at hd9; done)
  (rename Fr g _ _ _ => Fe); (rename News g _ _ _ => Ne)
  exact hret _ _ _ (fun b o e n => Fe.keep b o (kG b o e n)) ⟨_, _, _, _, _, rfl, GSub.fresh kG (by simp) (News.fresh Ne (List.Mem.head _)), Ne.get (List.Mem.head _), GSub.fresh kG (by simp) (News.fresh Ne (List.Mem.tail _ (List.Mem.head _))), Ne.get (List.Mem.tail _ (List.Mem.head _))⟩
set_option maxHeartbeats 4000000 in
theorem bt_nil {w : World} {mg mb : Str → Option Value} {mean : ExcName → Option Value} {s : Shared} {q : Addr} {nq : Nat} (hq : s.heap.get? q = some (listOf #[] nq)) :
    Ct w mg mb mean 590 1900 188 [.ref q, .bool false] s [] (fun r h' => ∃ D nD, r = .ref D ∧ s.heap.get? D = none ∧ h'.get? D = some (listOf #[] nD)) := by
  unfold Ct
  k_fill
  intro gd cn cs a ccd cl outer A₀ base h₀ L m Q E B F X T hcs hX hret
  have N : News h₀ L s.heap [] := News.nil
  walk_at "mine enter"
  intro g L' h₁ FG F₁ N₁ BG XG TG kG; (try dsimp only)
  have hlg : g.IsList q (List.toArray []) := ⟨_, kG _ _ hq (by simp), rfl, _, rfl⟩
  have hI : IntsAre [] [] := IntsAre.nil
  k_steps
  all_goals try (exfalso; (rename (decide _ = false) => hd9); simp at hd9; done)
  (rename Fr g _ _ _ => Fe); (rename News g _ _ _ => Ne)
  exact hret _ _ _ (fun b o e n => Fe.keep b o (kG b o e n)) ⟨_, _, rfl, GSub.fresh kG (by simp) (News.fresh Ne (List.Mem.head _)), Ne.get (List.Mem.head _)⟩
section
open PySem.SeqAt
variable {A : Around} {s : Shared}
theorem all_true (n : Nat) : ((List.range n).all fun _ => true) = true := List.all_eq_true.mpr fun _ _ => rfl
theorem eq_tup3 {a b : Addr} {x1 x2 x3 y1 y2 y3 : Value} {n n' : Nat} (ea : s.heap.get? a = some { cls := .type "tuple", data := .seq #[x1, x2, x3] n }) (eb : s.heap.get? b = some { cls := .type "tuple", data := .seq #[y1, y2, y3] n' })
    (h1 : EqAt A.in1 s x1 y1 true) (h2 : EqAt A.in1 s x2 y2 true) (h3 : EqAt A.in1 s x3 y3 true) (hu : A.units < cLine) : EqAt A s (.ref a) (.ref b) true := by
  by_cases hne : a = b
  · subst hne; exact EqAt.same _
  · refine EqAt.of_refs hne ?_
    have := RcAt.tuples (A := A) (s := s) (l := a) (b := b) (items := #[x1, x2, x3]) (items2 := #[y1, y2, y3]) (e := fun _ => true) ⟨_, ea, rfl, _, rfl⟩ ⟨_, eb, rfl, _, rfl⟩ hu ?_
    · have e : ((List.range (min (#[x1, x2, x3] : Array Value).size (#[y1, y2, y3] : Array Value).size)).all (fun _ => true) && (#[x1, x2, x3] : Array Value).size == (#[y1, y2, y3] : Array Value).size) = true := rfl
      rw [e] at this; exact this
    · intro j hj1 hj2
      have : j = 0 ∨ j = 1 ∨ j = 2 := by simp at hj1; omega
      rcases this with rfl | rfl | rfl
      · exact h1
      · exact h2
      · exact h3
theorem list_eqs {xs ys : List Value} (h : Paired (fun x y => EqAt A.in1 s x y true) xs ys) : ∀ j (h1 : j < (List.toArray xs).size) (h2 : j < (List.toArray ys).size), EqAt A.in1 s (List.toArray xs)[j] (List.toArray ys)[j] ((fun _ => true) j) := by
  induction h with
  | nil => intro j h1; simp at h1
  | cons a r ih =>
    intro j h1 h2
    cases j with
    | zero => simpa using a
    | succ j => exact ih j (Nat.lt_of_succ_lt_succ h1) (Nat.lt_of_succ_lt_succ h2)
theorem ne_lists {prog : Program} {w : World} {E Q : Value → Shared → Prop} {l b : Addr} {xs ys : List Value} (hl : s.heap.IsList l (List.toArray xs)) (hb : s.heap.IsList b (List.toArray ys)) (h : Paired (fun x y => EqAt A.in1 s x y true) xs ys) (hu : A.units < cLine) (hq : Q (.bool false) s) :
    wpAny (model prog w) A (compareOp .NotEq (.ref l) (.ref b)) Q E s := by
  have := RcNeAt.lists (A := A) (s := s) (e := fun _ => true) hl hb (by simpa using Paired.length h) hu (list_eqs h) prog w E Q
  rw [all_true] at this
  exact this hq
theorem eq_lists {prog : Program} {w : World} {E Q : Value → Shared → Prop} {l b : Addr} {xs ys : List Value} (hl : s.heap.IsList l (List.toArray xs)) (hb : s.heap.IsList b (List.toArray ys)) (h : Paired (fun x y => EqAt A.in1 s x y true) xs ys) (hu : A.units < cLine) (hq : Q (.bool true) s) :
    wpAny (model prog w) A (compareOp .Eq (.ref l) (.ref b)) Q E s := by
  have := RcAt.lists (A := A) (s := s) (e := fun _ => true) hl hb (by simpa using Paired.length h) hu (list_eqs h) prog w E Q
  rw [all_true] at this
  exact this hq
theorem eq_int {B : Around} (i : Int) (t u : Tok) : EqAt B s (.int i t) (.int i u) true := by
  have := EqAt.int_int (A := B) (s := s) i t i u
  rwa [beq_self_eq_true] at this
theorem tups_eq {h : Heap} (hh : s.heap = h) {N M : Addr → Prop} {wv : Bool} : ∀ {vs us ys zs : List Value} {ns : List Int}, IntsAre vs ns → IntsAre us ns → Paired (TupR N h (.bool wv)) vs ys → Paired (TupR M h (.bool wv)) us zs → A.units + 1 < cLine → Paired (fun x y => EqAt A.in1 s x y true) ys zs
  | _, _, _, _, _, .nil, .nil, .nil, .nil, _ => .nil
  | _, _, _, _, _, .cons _ _ a, .cons _ _ b, .cons ⟨c, t, n, ec, _, fc⟩ r, .cons ⟨d, t', n', ed, _, fd⟩ q, hu => by
    subst hh; subst ec; subst ed
    refine .cons (eq_tup3 fc fd ?_ ?_ ?_ hu) (tups_eq rfl a b r q hu)
    · simpa using EqAt.str_str (A := A.in1.in1) (s := s) (Str.ofString "form") t (Str.ofString "form") t'
    · exact eq_int _ _ _
    · have := EqAt.bool_bool (A := A.in1.in1) (s := s) wv wv; rwa [beq_self_eq_true] at this
end
end

section
theorem calm16 : True := by
  w_top off
  exact True.intro
theorem words14 : True := by
  k_with_none
  k_with "my k_room" => (first | exact Nat.le_of_ble_eq_true rfl | (simp only [depth_under_make, depth_under_kw, depth_in1, depth_deeper, depth_caller, recursionLimit] at *; omega))
  k_with "my eval ListComp" => (((fail_if_success (rename LibOk => x9)); refine Stop.out ?_))
  k_with "my exec Assign cons ListComp" => (((fail_if_success (rename LibOk => x9)); refine Stop.out ?_))
  k_with "my mine enter" => ((
  refine wpAny_call ?_
  first
  | (refine' code_defG ?k1 ?k2 ?k3 ?k4 ?k5 ?kA ?kF ?kK ?k6 ?k7 ?k8 ?k9 ?kB ?_ ?c2 ?c3 ?c4 ?c5; (case kA => exact rfl); (case kF => exact rfl); (case kK => first | exact rfl | assumption); (case k1 => k_asm); (case k2 => k_asm); (case k3 => k_asm); (case k4 => k_asm); (case k5 => k_asm); (case k6 => k_is); (case k7 => k_is); (case k8 => k_room); (case k9 => first | exact BindsTo.of_eq rfl | exact binds_K (by k_in) rfl (by k_is) rfl rfl rfl | fail "mine enter: binds"); (case c5 => decide); (case kB => exact locs rfl); (case c2 => exact rfl); (case c3 => exact rfl); (case c4 => exact rfl); k_whole)
  | (refine' code_defCG ?k1 ?k2 ?k3 ?k4 ?k5 ?kA ?kF ?kK ?k6 ?k7 ?k8 ?k9 ?kB ?kD ?_ ?c2 ?c3 ?c4; (case kA => exact rfl); (case kF => exact rfl); (case kK => first | exact rfl | assumption); (case k1 => k_asm); (case k2 => k_asm); (case k3 => k_asm); (case k4 => k_asm); (case k5 => k_asm); (case k6 => k_is); (case k7 => k_is); (case k8 => k_room); (case k9 => first | exact BindsTo.of_eq rfl | exact binds_K (by k_in) rfl (by k_is) rfl rfl rfl | fail "mine enter: binds"); (case kB => exact rfl); (case kD => decide +kernel); (case c2 => exact rfl); (case c3 => exact rfl); (case c4 => exact rfl); k_whole)))
  k_with "my mine dip" => ((k_here; k_dflt (refine' use_dip ?hh ?hd ?hu ?hA ?B ?F ?K ?T ?hcs ?N ?V ?h0 ?hx0 ?hx1 ?hl ?hk ?_; (case hh => exact rfl); (case hA => exact rfl); (case hd => first | exact Nat.le_of_ble_eq_true rfl | (simp only [depth_in1, depth_deeper]; omega)); (case hu => first | exact Nat.le_of_ble_eq_true rfl | (simp only [units_in1, units_deeper]; omega)); (case B => k_asm); (case F => k_asm); (case K => k_asm); (case T => k_asm); (case hcs => first | exact rfl | assumption); (case N => k_asm); (case V => k_updF); (case h0 => assumption); (case hx0 => assumption); (case hx1 => assumption); (case hl => (refine' IntsAt.up ?ha (Fr.keep ?hb); (case hb => k_asm); (case ha => k_asm))); (case hk => decide); k_whole); intro i' t' at' ta' x' tx' n' h' tk' b0 b1 b2 b3 b4 F' N'; (try dsimp only at N'); (try k_sweep)))
  k_with "my call ref" => (first | walk_at "mine dip" | ((with_reducible show wpAny _ _ (call (Value.ref 168) _) _ _ _); refine Stop.out ?_) | ((with_reducible show wpAny _ _ (call (Value.ref 188) _) _ _ _); refine Stop.out ?_) | ((with_reducible show wpAny _ _ (call (Value.ref 224) _) _ _ _); refine Stop.out ?_) | ((with_reducible show wpAny _ _ (call (Value.ref 229) _) _ _ _); refine Stop.out ?_) | ((with_reducible show wpAny _ _ (call (Value.ref 236) _) _ _ _); refine Stop.out ?_) | ((with_reducible show wpAny _ _ (call (Value.ref 77) _) _ _ _); refine Stop.out ?_) | ((with_reducible show wpAny _ _ (call (Value.ref 65) _) _ _ _); refine Stop.out ?_) | ((with_reducible show wpAny _ _ (call (Value.ref 241) _) _ _ _); refine Stop.out ?_) | ((with_reducible show wpAny _ _ (call (Value.ref 246) _) _ _ _); refine Stop.out ?_) | ((with_reducible show wpAny _ _ (call (Value.ref 253) _) _ _ _); refine Stop.out ?_) | ((with_reducible show wpAny _ _ (call (Value.ref 105) _) _ _ _); refine Stop.out ?_))
  k_with "my mine ct" => (((rename Ct _ _ _ _ _ _ _ _ _ _ _ => hCt); k_dflt (refine' use_ct hCt ?hh ?hd ?hu ?hA ?B ?F ?K ?T ?hcs ?hX ?_; (case hh => exact rfl); (case hA => exact rfl); (case hd => first | exact Nat.le_of_ble_eq_true rfl | (simp only [depth_in1, depth_deeper]; omega)); (case hu => first | exact Nat.le_of_ble_eq_true rfl | (simp only [units_in1, units_deeper]; omega)); (case B => k_asm); (case F => k_asm); (case K => k_asm); (case T => k_asm); (case hcs => first | exact rfl | assumption); (case hX => first | exact News.inX (by k_asm) (by k_mem) | assumption | (intro x hx; cases hx)))))
  k_with "my storeName" => ((k_here; k_dflt (first | (refine' stK ?F ?N ?_ ?a ?b; (case F => k_asm); (case N => k_asm); (case a => rfl); (case b => rfl); k_whole; intro h' F' N' kS'; (try k_sweep)) | (refine' stC ?F ?N ?c ?U ?d ?_ ?a ?b; (case a => rfl); (case b => rfl); (case F => k_asm); (case N => k_asm); (case c => rfl); (case U => k_updF); (case d => k_asm); k_whole; intro h' o' F' N' d' kS'; (try dsimp only at N'); (try k_sweep)))))
  k_with "my compareOp Is ref ref" => ((k_here; (with_reducible show wpAny _ _ (compareOp CmpOp.Is (Value.ref _) (Value.ref _)) _ _ _); k_dflt (refine' kto_is ?a ?b ?n ?c ?_; (case a => first | kto_obj | (refine' gr_get ?F ?e; (case F => k_asm); (case e => with_reducible assumption))); (case b => first | kto_obj | (refine' gr_get ?F ?e; (case F => k_asm); (case e => with_reducible assumption))); (case n => first | assumption | exact Ne.symm (by assumption) | kto_ne); (case c => kto_not); k_whole)))
  k_with "my compareOp IsNot ref ref" => ((k_here; (with_reducible show wpAny _ _ (compareOp CmpOp.IsNot (Value.ref _) (Value.ref _)) _ _ _); k_dflt (refine' kto_isnot ?a ?b ?n ?c ?_; (case a => first | kto_obj | (refine' gr_get ?F ?e; (case F => k_asm); (case e => with_reducible assumption))); (case b => first | kto_obj | (refine' gr_get ?F ?e; (case F => k_asm); (case e => with_reducible assumption))); (case n => first | assumption | exact Ne.symm (by assumption) | kto_ne); (case c => kto_not); k_whole)))
  k_with "my compareOp Is int ref" => ((k_here; refine wpAny_is_other (by rfl) (by intro x; cases x) ?_))
  k_with "my compareOp IsNot int ref" => ((k_here; refine wpAny_isNot_other (by rfl) (by intro x; cases x) ?_))
  k_with "my compareOp Is ref int" => ((k_here; refine wpAny_is_other (by rfl) (by intro x; cases x) ?_))
  k_with "my compareOp IsNot ref int" => ((k_here; refine wpAny_isNot_other (by rfl) (by intro x; cases x) ?_))
  k_with "my newTuple" => (((rename RawTup => rt9); refine Stop.out ?_))
  k_with "my execs cons" => (((with_reducible show wpAny _ _ _ _ _ _); k_fold; refine wpAny_execs_cons ?_))
  k_with "my chain47" => (first | (with_reducible assumption) | ((with_reducible refine Nat.lt_trans (by assumption) ?_); walk_at "chain47"))
  k_with "my lt47" => (first | (with_reducible assumption) | (with_reducible exact Nat.lt_add_one _) | (with_reducible exact Nat.lt_trans (Nat.lt_add_one _) (Nat.lt_add_one _)) | ((fail_if_success (fail_if_success (with_reducible refine pkG (by assumption) ?_))); first | (with_reducible exact pk0 (by assumption)) | (with_reducible exact pk1 (by assumption)) | (with_reducible exact pk2 (by assumption)) | (with_reducible exact pk3 (by assumption)) | (with_reducible exact pk4 (by assumption)) | (with_reducible exact pk5 (by assumption)) | (with_reducible exact pk6 (by assumption)) | (with_reducible exact pk7 (by assumption)) | (with_reducible exact pk8 (by assumption)) | (with_reducible exact pk9 (by assumption)) | (with_reducible exact pk10 (by assumption)) | (with_reducible exact pk11 (by assumption)) | (with_reducible exact pk12 (by assumption)) | (with_reducible exact pk13 (by assumption)) | (with_reducible exact pk14 (by assumption)) | (with_reducible exact pk15 (by assumption)) | (with_reducible exact pk16 (by assumption)) | (with_reducible exact pk17 (by assumption)) | (with_reducible exact pk18 (by assumption)) | (with_reducible exact pk19 (by assumption))) | walk_at "chain47" | ((with_reducible refine Nat.lt_trans (Nat.lt_add_one _) ?_); walk_at "chain47") | ((with_reducible refine Nat.lt_trans (Nat.lt_trans (Nat.lt_add_one _) (Nat.lt_add_one _)) ?_); walk_at "chain47"))
  k_with "my in47a" => (first | (with_reducible exact pk0) | (with_reducible exact pk1) | (with_reducible exact pk2) | (with_reducible exact pk3) | (with_reducible exact pk4) | (with_reducible exact pk5) | (with_reducible exact pk6) | (with_reducible exact pk7))
  k_with "my in47b" => (first | (with_reducible exact pk8) | (with_reducible exact pk9) | (with_reducible exact pk10) | (with_reducible exact pk11) | (with_reducible exact pk12) | (with_reducible exact pk13) | (with_reducible exact pk14) | (with_reducible exact pk15))
  k_with "my in47c" => (first | (with_reducible exact pk16) | (with_reducible exact pk17) | (with_reducible exact pk18) | (with_reducible exact pk19) | (with_reducible exact pk20) | (with_reducible exact pk21) | (with_reducible exact pk22) | (with_reducible exact pk23))
  k_with "my in47d" => (first | (with_reducible exact pk24) | (with_reducible exact pk25) | (with_reducible exact pk26) | (with_reducible exact pk27) | (with_reducible exact pk28) | (with_reducible exact pk29) | (with_reducible exact pk30) | (with_reducible exact pk31))
  k_with "my in47e" => (first | (with_reducible exact pk32) | (with_reducible exact pk33) | (with_reducible exact pk34) | (with_reducible exact pk35) | (with_reducible exact pk36) | (with_reducible exact pk37) | (with_reducible exact pk38) | (with_reducible exact pk39))
  k_with "my pk47" => (((fail_if_success (fail_if_success (with_reducible refine pkG (by assumption) ?_))); first | ((fail_if_success (fail_if_success ((with_reducible refine pkI (by assumption) ?_); walk_at "in47a"))); first | (with_reducible exact pk0 (by assumption)) | (with_reducible exact pk1 (by assumption)) | (with_reducible exact pk2 (by assumption)) | (with_reducible exact pk3 (by assumption)) | (with_reducible exact pk4 (by assumption)) | (with_reducible exact pk5 (by assumption)) | (with_reducible exact pk6 (by assumption)) | (with_reducible exact pk7 (by assumption))) | ((fail_if_success (fail_if_success ((with_reducible refine pkI (by assumption) ?_); walk_at "in47b"))); first | (with_reducible exact pk8 (by assumption)) | (with_reducible exact pk9 (by assumption)) | (with_reducible exact pk10 (by assumption)) | (with_reducible exact pk11 (by assumption)) | (with_reducible exact pk12 (by assumption)) | (with_reducible exact pk13 (by assumption)) | (with_reducible exact pk14 (by assumption)) | (with_reducible exact pk15 (by assumption))) | ((fail_if_success (fail_if_success ((with_reducible refine pkI (by assumption) ?_); walk_at "in47c"))); first | (with_reducible exact pk16 (by assumption)) | (with_reducible exact pk17 (by assumption)) | (with_reducible exact pk18 (by assumption)) | (with_reducible exact pk19 (by assumption)) | (with_reducible exact pk20 (by assumption)) | (with_reducible exact pk21 (by assumption)) | (with_reducible exact pk22 (by assumption)) | (with_reducible exact pk23 (by assumption))) | ((fail_if_success (fail_if_success ((with_reducible refine pkI (by assumption) ?_); walk_at "in47d"))); first | (with_reducible exact pk24 (by assumption)) | (with_reducible exact pk25 (by assumption)) | (with_reducible exact pk26 (by assumption)) | (with_reducible exact pk27 (by assumption)) | (with_reducible exact pk28 (by assumption)) | (with_reducible exact pk29 (by assumption)) | (with_reducible exact pk30 (by assumption)) | (with_reducible exact pk31 (by assumption))) | ((fail_if_success (fail_if_success ((with_reducible refine pkI (by assumption) ?_); walk_at "in47e"))); first | (with_reducible exact pk32 (by assumption)) | (with_reducible exact pk33 (by assumption)) | (with_reducible exact pk34 (by assumption)) | (with_reducible exact pk35 (by assumption)) | (with_reducible exact pk36 (by assumption)) | (with_reducible exact pk37 (by assumption)) | (with_reducible exact pk38 (by assumption)) | (with_reducible exact pk39 (by assumption)))))
  k_with "my ne47" => (first | (with_reducible exact Nat.ne_of_lt (by assumption)) | (with_reducible exact Nat.ne_of_gt (by assumption)) | ((with_reducible refine Nat.ne_of_lt ?_); walk_at "pk47") | ((with_reducible refine Nat.ne_of_gt ?_); walk_at "pk47") | ((with_reducible refine Nat.ne_of_gt ?_); (with_reducible refine ltTail ?_ (by assumption)); walk_at "pk47") | ((with_reducible refine Nat.ne_of_lt ?_); (with_reducible refine ltTail ?_ (by assumption)); walk_at "pk47") | ((with_reducible refine Nat.ne_of_lt ?_); walk_at "lt47") | ((with_reducible refine Nat.ne_of_gt ?_); walk_at "lt47") | omega)
  k_with "my k_ne" => ((refine neN ?_; (try dsimp only); walk_at "ne47"))
  k_with "my neR47" => ((refine neN ?_; (try dsimp only); first | ((with_reducible refine Nat.ne_of_gt ?_); first | walk_at "pk47" | walk_at "chain47" | ((with_reducible refine ltTail ?_ (by assumption)); walk_at "pk47")) | k_ne))
  k_with "my k_all" => (first | exact List.forall_mem_nil _ | (refine allLt_ne ?_; (try dsimp only [AllLt]); with_reducible assumption) | (refine' List.forall_mem_cons.mpr ⟨?a, ?b⟩; (case a => k_ne); (case b => k_all)))
  k_with "my k_upd" => (first | (refine' Upd.head ?a; (case a => k_all)) | (refine' Upd.tail ?a ?b; (case a => walk_at "neR47"); (case b => k_upd)))
  k_with "my k_updF" => (first | (refine' UpdF.head ?a; (case a => k_all)) | (refine' UpdF.tail ?a ?b; (case a => walk_at "neR47"); (case b => k_updF)))
  k_with "my compareOp NotEq ref ref" => ((k_here; (with_reducible show wpAny _ _ (compareOp CmpOp.NotEq (Value.ref _) (Value.ref _)) _ _ _); k_dflt (first | ((refine ke_ne_ints (by is_list) (by is_list) (by l_ints) (by l_ints) (by ke_room) ?_); ke_norm) | refine Stop.out ?_)))
  exact True.intro
open PySem.SeqAt in
theorem eq_str {B : Around} {s : Shared} (i : Str) (t u : Tok) : EqAt B s (.str i t) (.str i u) true := by
  have := EqAt.str_str (A := B) (s := s) i t i u
  rwa [beq_self_eq_true] at this
open PySem.SeqAt in
set_option linter.unusedSimpArgs false in
set_option maxHeartbeats 4000000 in
theorem body_ct {w : World} {mg mb : Str → Option Value} {mean : ExcName → Option Value} {s : Shared} {p l un : Addr} (hp : PotAt s.heap p l) (hl : IntsAt s.heap l) :
    Ct w mg mb mean 500 1000 241 [.ref un, .ref p] s [p] (fun r h' => PotAt h' p l ∧ r = .bool true) := by
  have hpl := pot_ne hp hl
  obtain ⟨at', ta, x, tx, n, ho, h0, hx0, hx1⟩ := hp
  unfold Ct
  k_fill
  intro gd cn cs a ccd cl outer A₀ base h₀ L m Q E B F X T hcs hX hret
  have N : News h₀ L s.heap [(p, potO l at' ta x tx n)] := fun q hq => by
    rw [List.mem_singleton.mp hq]; exact ⟨ho, (hX p (.head _)).2, (hX p (.head _)).1⟩
  walk_at "mine enter"
  intro g L' h₁ tk₁ cells FG F₁ N₁ Y BG XG TG l1 kG; k_lt l1; k_cells Y; (try simp only [List.cons_append, List.nil_append] at N₁); (try dsimp only)
  have hlg := hl.kept (X := [p]) kG (by simpa using Ne.symm hpl)
  k_steps
  refine Stop.mk ?_
  refine Assign_ListCompJ [p] (by with_unfolding_all rfl) (by with_unfolding_all rfl) (by decide) (by with_unfolding_all rfl) (by decide) (by with_unfolding_all rfl) (by with_unfolding_all rfl) (by with_unfolding_all rfl) ?_ (by intro _; with_unfolding_all rfl) ?_
  · show ¬ L' ∈ [p]
    simp only [List.mem_singleton]; k_ne
  k_steps
  (rename Fr g _ _ _ => Fe); (rename News g _ _ _ => Ne); (rename IsRange _ _ _ _ _ _ _ _ => hR)
  have hXp := News.inX Ne (p := p) (o := potO _ _ _ _ _ _) (by k_mem)
  have ep := Ne.get (a := p) (o := potO _ _ _ _ _ _) (by k_mem)
  refine rangeA [p] (fun N i ys h => PotAt h p l ∧ ys.length = i ∧ ∃ ns, IntsAre ys ns) (fun a => a = p) (by rfl) hR (by assumption) (by omega) (alive1 ep) (by rintro b rfl; exact ⟨_, ep⟩) Fe.ns ?_ ?_ ?_ ?_ ?_
  · rintro q; exact (hXp _ (List.Mem.head _)).2 q.symm
  · exact fun N h k => ⟨⟨_, _, _, _, _, k _ _ ep, by assumption, by assumption, by assumption⟩, rfl, [], .nil⟩
  · rintro N N' i ys h h' ⟨a, e, ns, b⟩ c d
    exact ⟨a.of fun o e => d p o (.inr rfl) e, e, ns, b⟩
  · rintro C N j tj ys s₃ m₃ hj ⟨hP, e, ns, hF⟩ hn hm hC hK hN hNX E'
    refine wpAny_tests_nil ?_
    rw [if_pos rfl]
    have F₃ := Fr.kept Fe hK hXp
    have N₃ := News.one Ne hK (List.Mem.head _) (by simp only [List.mem_singleton]; k_ne)
    clear Fe Ne
    k_steps
    refine Stop.mk ?_
    have C1 := @dip_ct w mg mb mean { heap := s₃.heap, gens := s₃.gens, drawn := s₃.drawn, toks := s₃.toks + 1, os := s₃.os } p l 9 (s₃.toks) hP (hlg.up F₃.keep) (by decide)
    walk_at "mine ct"
    rintro r h' tk' F' hk' ⟨hP', i9, t9, rfl, _, _⟩
    exact ⟨_, _, rfl, hk', hP', by simp [e], _, IntsAre.app hF (.cons i9 t9 .nil)⟩
  · intro D h' tk ys hD ⟨nD, eD⟩ hlen ⟨hP, e, ns, hF⟩ hns hK
    have nD := Fr.new Fe hD
    obtain ⟨at2, ta2, x2, tx2, n2, ep2, c0, c1, c2⟩ := hP
    have F₄ := Fr.assign Fe hns hK hXp
    have N₄ := two_news eD ep2 nD.1 (hXp _ (List.Mem.head _)).2 nD.2 (hXp _ (List.Mem.head _)).1
    have hlen' : ys.length ≤ 3 := by omega
    clear Fe Ne hns hK e hlen hR ep
    dsimp only
    rcases List.eq_nil_or_concat ys with rfl | ⟨pre, lv, hcat⟩
    · cases hF
      k_steps
      refine Stop.mk ?_
      refine Assign_ListCompJ [] (by with_unfolding_all rfl) (by with_unfolding_all rfl) (by decide) (by with_unfolding_all rfl) (by decide) (by with_unfolding_all rfl) (by with_unfolding_all rfl) (by with_unfolding_all rfl) (by simp) (by intro _; with_unfolding_all rfl) ?_
      k_steps
      (rename Fr g _ _ _ => Fe); (rename News g _ _ _ => Ne)
      refine tupsA (wv := .bool false) (its := []) (by rfl) ⟨_, Ne.get (List.Mem.head _), rfl, _, rfl⟩ (by unfold sizeLine; simp) Fe.ns ?_ ?_
      · intro C s₃ m₃ v E' hv hn hm hK
        exact absurd hv (by simp)
      · intro D1 h5 tk5 ys1 nD1 hD1 eD1 hns1 hK1 hT1
        cases hT1
        have F₅ := Fr.assign Fe hns1 hK1 (by simp)
        have nD5 := Fr.new Fe hD1
        have N₅ := News.cons (q := (D1, listOf (List.toArray []) nD1)) (fun z hz => by rw [List.mem_singleton.mp hz]; exact ⟨eD1, nD5⟩) (News.but Ne hK1)
        clear Fe Ne hns1 hK1 eD1
        dsimp only
        k_steps
        refine Stop.mk ?_
        (rename Fr g _ _ _ => Fe); (rename News g _ _ _ => Ne)
        have eF := Ne.get (a := D) (o := listOf (List.toArray []) _) (by k_mem)
        (refine' use_ct (bt_none eF) ?hh ?hd ?hu ?hA ?B ?F ?K ?T ?hcs ?hX ?_; (case hh => exact rfl); (case hA => exact rfl); (case hd => exact Nat.le_of_ble_eq_true rfl); (case hu => exact Nat.le_of_ble_eq_true rfl); (case B => k_asm); (case F => exact Fe); (case K => k_asm); (case T => k_asm); (case hcs => exact rfl); (case hX => intro x hx; cases hx))
        rintro r6 h6 tk6 F6 k6 ⟨D2, nD2, a2, t2, n2, rfl, fD2, eD2, fa2, ea2⟩
        have N₆ := News.also (News.also (News.all Ne k6) Fe fa2 ea2) Fe fD2 eD2
        clear Fe Ne k6 eD2 ea2 eF
        k_steps
        all_goals try (exfalso; (rename (decide _ = true) => hd9); simp at hd9; done)
        refine Stop.mk ?_
        (rename Fr g _ _ _ => Fe); (rename News g _ _ _ => Ne)
        have eA := Ne.get (a := D2) (o := listOf (List.toArray [.ref a2]) nD2) (by k_mem)
        have eC := Ne.get (a := a2) (o := tupC t2 n2) (by k_mem)
        refine' ne_lists (ys := [.ref _]) ⟨_, eA, rfl, _, rfl⟩ ⟨_, Ne.get (List.Mem.head _), rfl, _, rfl⟩ (.cons (eq_tup3 eC (Ne.get (List.Mem.tail _ (List.Mem.head _))) ?h1 ?h2 ?h3 ?hu2) .nil) ?hu3 ?_
        (case hu2 => exact Nat.le_of_ble_eq_true rfl); (case hu3 => exact Nat.le_of_ble_eq_true rfl)
        (case h1 => exact eq_str _ _ _); (case h2 => exact EqAt.same _); (case h3 => exact EqAt.same _)
        clear eA eC
        k_steps
        refine Stop.mk ?_
        (rename News g _ _ _ => Nx); (rename Fr g _ _ _ => Fe)
        have Ne := News.cons (News.sub1 Nx (a := D) (o := listOf (List.toArray []) _) (by k_mem)) (News.sub1 Nx (a := p) (o := potO l at2 ta2 x2 tx2 _) (by k_mem))
        clear Nx
        have eF := Ne.get (List.Mem.head _)
        (refine' use_ct (bt_nil eF) ?hh ?hd ?hu ?hA ?B ?F ?K ?T ?hcs ?hX ?_; (case hh => exact rfl); (case hA => exact rfl); (case hd => exact Nat.le_of_ble_eq_true rfl); (case hu => exact Nat.le_of_ble_eq_true rfl); (case B => k_asm); (case F => exact Fe); (case K => k_asm); (case T => k_asm); (case hcs => exact rfl); (case hX => intro x hx; cases hx))
        rintro r7 h7 tk7 F7 k7 ⟨D4, nD4, rfl, fD4, eD4⟩
        have N₇ := News.also (News.all Ne k7) Fe fD4 eD4
        clear Fe Ne k7 eD4 eF
        k_steps
        refine Stop.mk ?_
        refine ListCompJ [] (by with_unfolding_all rfl) (by decide) (by with_unfolding_all rfl) (by decide) (by with_unfolding_all rfl) (by intro _; with_unfolding_all rfl) ?_
        k_steps
        (rename Fr g _ _ _ => Fe); (rename News g _ _ _ => Ne)
        refine tupsE (wv := .bool false) (its := []) (by rfl) ⟨_, Ne.get (o := listOf (List.toArray []) _) (a := D) (by k_mem), rfl, _, rfl⟩ (by unfold sizeLine; simp) ?_ ?_
        · intro C s₃ m₃ v E' hv hn hm hK
          exact absurd hv (by simp)
        · intro D5 h8 tk8 ys5 nD5' hD5 eD5 k8 hT5
          cases hT5
          have eA := k8 _ _ (Ne.get (a := D4) (o := listOf (List.toArray []) nD4) (by k_mem)) (by simp)
          have N₈ := News.sub1 (News.all Ne k8) (a := p) (o := potO l at2 ta2 x2 tx2 _) (by k_mem)
          have F₈ := Fr.kept Fe k8 (by simp)
          clear Ne Fe
          dsimp only
          k_steps
          refine Stop.mk ?_
          refine' ne_lists (xs := []) (ys := []) ⟨_, eA, rfl, _, rfl⟩ ⟨_, eD5, rfl, _, rfl⟩ .nil ?hu3 ?_
          (case hu3 => exact Nat.le_of_ble_eq_true rfl)
          clear eA eD5
          k_steps
          all_goals ((rename Fr g _ _ _ => Fz); (rename News g _ _ _ => Nz); exact hret _ _ _ (fun b o e n => Fz.keep b o (kG b o e n)) ⟨⟨_, _, _, _, _, Nz.get (o := potO l at2 ta2 x2 tx2 _) (by k_mem), c0, c1, c2⟩, rfl⟩)
    rw [List.concat_eq_append] at hcat
    subst hcat
    obtain ⟨ps, n1, t1, rfl, rfl, hPs⟩ := IntsAre.snoc_inv hF
    have lpre : pre.length ≤ 3 := by simp at hlen'; omega
    k_steps
    refine Stop.mk ?_
    refine Assign_ListCompJ [] (by with_unfolding_all rfl) (by with_unfolding_all rfl) (by decide) (by with_unfolding_all rfl) (by decide) (by with_unfolding_all rfl) (by with_unfolding_all rfl) (by with_unfolding_all rfl) (by simp) (by intro _; with_unfolding_all rfl) ?_
    k_steps
    (rename Fr g _ _ _ => Fe); (rename News g _ _ _ => Ne); (rename IntsAre _ (List.take _ _) => hW)
    have e1 : List.take ((ps ++ [n1]).length - 1) (ps ++ [n1]) = ps := by simp
    rw [e1] at hW
    have lW := IntsAre.length hW
    have lp := IntsAre.length hPs
    refine tupsA (wv := .bool false) (by rfl) ⟨_, Ne.get (List.Mem.head _), rfl, _, rfl⟩ (by unfold sizeLine; omega) Fe.ns ?_ ?_
    · intro C s₃ m₃ v E' hv hn hm hK
      have F₃ := Fr.kept Fe hK (by simp)
      have N₃ : News g L' s₃.heap [] := News.nil
      have rt : RawTup := RawTup.mk
      clear Fe Ne
      k_steps
      refine Stop.mk ?_
      refine newTuple_raw (Nat.le_of_ble_eq_true rfl) ?_
      intro c h' fc kc ec
      exact ⟨_, _, rfl, kc, c, _, _, rfl, fc, ec⟩
    · intro D1 h5 tk5 ys1 nD1 hD1 eD1 hns1 hK1 hT1
      have F₅ := Fr.assign Fe hns1 hK1 (by simp)
      have nD5 := Fr.new Fe hD1
      obtain ⟨rest1, hr1, hT1'⟩ := tups_led (L := L') (h₀ := g) (fun a (na : _ ∧ _) => Fr.new Fe na.1) hT1
      have N₅ := News.cons (q := (D1, listOf (List.toArray ys1) nD1)) (fun z hz => by rw [List.mem_singleton.mp hz]; exact ⟨eD1, nD5⟩) (News.app (News.but Ne hK1) hr1)
      simp only [List.cons_append, List.nil_append] at N₅
      clear Fe Ne hns1 hK1 hT1 hr1 eD1
      have l1 := Paired.length hT1'
      dsimp only
      k_steps
      refine Stop.mk ?_
      (rename Fr g _ _ _ => Fe); (rename News g _ _ _ => Ne)
      have eF := Ne.get (a := D) (o := listOf (List.toArray (pre ++ [.int n1 t1])) _) (by k_mem)
      (refine' use_ct (bt_more eF hPs lpre) ?hh ?hd ?hu ?hA ?B ?F ?K ?T ?hcs ?hX ?_; (case hh => exact rfl); (case hA => exact rfl); (case hd => exact Nat.le_of_ble_eq_true rfl); (case hu => exact Nat.le_of_ble_eq_true rfl); (case B => k_asm); (case F => exact Fe); (case K => k_asm); (case T => k_asm); (case hcs => exact rfl); (case hX => intro x hx; cases hx))
      rintro r6 h6 tk6 F6 k6 ⟨D2, vs2, ys2, nD2, a2, t2, u2, n2, rfl, fD2, eD2, hV2, hT2, fa2, ea2⟩
      obtain ⟨rest2, hr2, hT2'⟩ := tups_led (L := L') (h₀ := g) (fun a na => Fr.new Fe na) hT2
      have N₆ := News.also (News.also (News.app (News.all Ne k6) hr2) Fe fa2 ea2) Fe fD2 eD2
      simp only [List.cons_append, List.nil_append, List.append_assoc] at N₆
      clear Fe Ne k6 hT2 hr2 eD2 ea2 eF
      have l2 := Paired.length hT2'
      have l3 := IntsAre.length hV2
      k_steps
      · exfalso; (rename (decide _ = true) => hd9); simp at hd9
      refine Stop.mk ?_
      (rename Fr g _ _ _ => Fe); (rename News g _ _ _ => Ne)
      have NR1 : News g L' _ rest1 := fun z hz => Ne z (by simp [hz])
      have NR2 : News g L' _ rest2 := fun z hz => Ne z (by simp [hz])
      have eA := Ne.get (a := D2) (o := listOf (List.toArray (ys2 ++ [.ref a2])) nD2) (by k_mem)
      have eB := Ne.get (List.Mem.head _)
      have eC := Ne.get (a := a2) (o := tupF t2 (.int n1 u2) (.bool true) n2) (by k_mem)
      refine' ne_lists ⟨_, eA, rfl, _, rfl⟩ ⟨_, eB, rfl, _, rfl⟩ (Paired.snoc (tups_eq rfl hV2 hW (tups_of NR2 hT2') (tups_of NR1 hT1') ?hu1) (eq_tup3 eC (Ne.get ?eb) ?h1 ?h2 ?h3 ?hu2)) ?hu3 ?_
      (case hu1 => exact Nat.le_of_ble_eq_true rfl); (case hu2 => exact Nat.le_of_ble_eq_true rfl); (case hu3 => exact Nat.le_of_ble_eq_true rfl)
      (case eb => k_mem)
      (case h1 => exact eq_str _ _ _); (case h2 => exact eq_int _ _ _); (case h3 => exact EqAt.same _)
      clear eA eB eC NR1 NR2
      k_steps
      refine Stop.mk ?_
      (rename News g _ _ _ => Nx); (rename Fr g _ _ _ => Fe)
      have Ne := News.cons (News.sub1 Nx (a := D) (o := listOf (List.toArray (pre ++ [.int n1 t1])) _) (by k_mem)) (News.sub1 Nx (a := p) (o := potO l at2 ta2 x2 tx2 _) (by k_mem))
      clear Nx
      have eF := Ne.get (List.Mem.head _)
      (refine' use_ct (bt_more eF hPs lpre) ?hh ?hd ?hu ?hA ?B ?F ?K ?T ?hcs ?hX ?_; (case hh => exact rfl); (case hA => exact rfl); (case hd => exact Nat.le_of_ble_eq_true rfl); (case hu => exact Nat.le_of_ble_eq_true rfl); (case B => k_asm); (case F => exact Fe); (case K => k_asm); (case T => k_asm); (case hcs => exact rfl); (case hX => intro x hx; cases hx))
      rintro r7 h7 tk7 F7 k7 ⟨D4, vs4, ys4, nD4, a4, t4, u4, n4, rfl, fD4, eD4, hV4, hT4, fa4, ea4⟩
      have hT4' := Paired.snoc hT4 (⟨a4, t4, n4, rfl, fa4, ea4⟩ : TupR _ h7 (.bool false) (.int n1 u4) (.ref a4))
      have hV4' := IntsAre.app hV4 (.cons n1 u4 .nil)
      obtain ⟨rest4, hr4, hT4''⟩ := tups_led (L := L') (h₀ := g) (fun a na => Fr.new Fe na) hT4'
      have N₇ := News.also (News.app (News.all Ne k7) hr4) Fe fD4 eD4
      simp only [List.cons_append, List.nil_append, List.append_assoc] at N₇
      clear Fe Ne k7 hT4 hT4' hr4 eD4 ea4 eF hV4
      have l4 := Paired.length hT4''
      have l5 := IntsAre.length hV4'
      k_steps
      refine Stop.mk ?_
      refine ListCompJ [] (by with_unfolding_all rfl) (by decide) (by with_unfolding_all rfl) (by decide) (by with_unfolding_all rfl) (by intro _; with_unfolding_all rfl) ?_
      k_steps
      (rename Fr g _ _ _ => Fe); (rename News g _ _ _ => Ne)
      refine tupsE (wv := .bool false) (by rfl) ⟨_, Ne.get (o := listOf (List.toArray (pre ++ [.int n1 t1])) _) (by k_mem), rfl, _, rfl⟩ (by unfold sizeLine; omega) ?_ ?_
      · intro C s₃ m₃ v E' hv hn hm hK
        have F₃ := Fr.kept Fe hK (by simp)
        have N₃ : News g L' s₃.heap [] := News.nil
        have rt : RawTup := RawTup.mk
        clear Fe Ne
        k_steps
        refine Stop.mk ?_
        refine newTuple_raw (Nat.le_of_ble_eq_true rfl) ?_
        intro c h' fc kc ec
        exact ⟨_, _, rfl, kc, c, _, _, rfl, fc, ec⟩
      · intro D5 h8 tk8 ys5 nD5' hD5 eD5 k8 hT5
        have NR4 : News g L' h8 rest4 := fun z hz => News.all Ne k8 z (by simp [hz])
        have eA := k8 _ _ (Ne.get (a := D4) (o := listOf (List.toArray (ys4 ++ [.ref a4])) nD4) (by k_mem)) (by simp)
        have N₈ := News.sub1 (News.all Ne k8) (a := p) (o := potO l at2 ta2 x2 tx2 _) (by k_mem)
        have F₈ := Fr.kept Fe k8 (by simp)
        clear Ne Fe
        dsimp only
        k_steps
        refine Stop.mk ?_
        refine' ne_lists ⟨_, eA, rfl, _, rfl⟩ ⟨_, eD5, rfl, _, rfl⟩ (tups_eq rfl hV4' hF (tups_of NR4 hT4'') hT5 ?hu1) ?hu3 ?_
        (case hu1 => exact Nat.le_of_ble_eq_true rfl); (case hu3 => exact Nat.le_of_ble_eq_true rfl)
        clear eA eD5 hT5 NR4
        k_steps
        all_goals ((rename Fr g _ _ _ => Fz); (rename News g _ _ _ => Nz); exact hret _ _ _ (fun b o e n => Fz.keep b o (kG b o e n)) ⟨⟨_, _, _, _, _, Nz.get (o := potO l at2 ta2 x2 tx2 _) (by k_mem), c0, c1, c2⟩, rfl⟩)
end

section
theorem calm17 : True := by
  w_top off
  exact True.intro
theorem words15 : True := by
  k_with_none
  k_with "my k_room" => (first | exact Nat.le_of_ble_eq_true rfl | (simp only [depth_under_make, depth_under_kw, depth_in1, depth_deeper, depth_caller, recursionLimit] at *; omega))
  k_with "my eval ListComp" => (((fail_if_success (rename LibOk => x9)); refine Stop.out ?_))
  k_with "my exec Assign cons ListComp" => (((fail_if_success (rename LibOk => x9)); refine Stop.out ?_))
  k_with "my mine enter" => ((
  refine wpAny_call ?_
  first
  | (refine' code_defG ?k1 ?k2 ?k3 ?k4 ?k5 ?kA ?kF ?kK ?k6 ?k7 ?k8 ?k9 ?kB ?_ ?c2 ?c3 ?c4 ?c5; (case kA => exact rfl); (case kF => exact rfl); (case kK => first | exact rfl | assumption); (case k1 => k_asm); (case k2 => k_asm); (case k3 => k_asm); (case k4 => k_asm); (case k5 => k_asm); (case k6 => k_is); (case k7 => k_is); (case k8 => k_room); (case k9 => first | exact BindsTo.of_eq rfl | exact binds_K (by k_in) rfl (by k_is) rfl rfl rfl | fail "mine enter: binds"); (case c5 => decide); (case kB => exact locs rfl); (case c2 => exact rfl); (case c3 => exact rfl); (case c4 => exact rfl); k_whole)
  | (refine' code_defCG ?k1 ?k2 ?k3 ?k4 ?k5 ?kA ?kF ?kK ?k6 ?k7 ?k8 ?k9 ?kB ?kD ?_ ?c2 ?c3 ?c4; (case kA => exact rfl); (case kF => exact rfl); (case kK => first | exact rfl | assumption); (case k1 => k_asm); (case k2 => k_asm); (case k3 => k_asm); (case k4 => k_asm); (case k5 => k_asm); (case k6 => k_is); (case k7 => k_is); (case k8 => k_room); (case k9 => first | exact BindsTo.of_eq rfl | exact binds_K (by k_in) rfl (by k_is) rfl rfl rfl | fail "mine enter: binds"); (case kB => exact rfl); (case kD => decide +kernel); (case c2 => exact rfl); (case c3 => exact rfl); (case c4 => exact rfl); k_whole)))
  k_with "my mine dip" => ((k_here; k_dflt (refine' use_dip ?hh ?hd ?hu ?hA ?B ?F ?K ?T ?hcs ?N ?V ?h0 ?hx0 ?hx1 ?hl ?hk ?_; (case hh => exact rfl); (case hA => exact rfl); (case hd => first | exact Nat.le_of_ble_eq_true rfl | (simp only [depth_in1, depth_deeper]; omega)); (case hu => first | exact Nat.le_of_ble_eq_true rfl | (simp only [units_in1, units_deeper]; omega)); (case B => k_asm); (case F => k_asm); (case K => k_asm); (case T => k_asm); (case hcs => first | exact rfl | assumption); (case N => k_asm); (case V => k_updF); (case h0 => assumption); (case hx0 => assumption); (case hx1 => assumption); (case hl => (refine' IntsAt.up ?ha (Fr.keep ?hb); (case hb => k_asm); (case ha => k_asm))); (case hk => decide); k_whole); intro i' t' at' ta' x' tx' n' h' tk' b0 b1 b2 b3 b4 F' N'; (try dsimp only at N'); (try k_sweep)))
  k_with "my call ref" => (first | walk_at "mine dip" | ((with_reducible show wpAny _ _ (call (Value.ref 168) _) _ _ _); refine Stop.out ?_) | ((with_reducible show wpAny _ _ (call (Value.ref 188) _) _ _ _); refine Stop.out ?_) | ((with_reducible show wpAny _ _ (call (Value.ref 224) _) _ _ _); refine Stop.out ?_) | ((with_reducible show wpAny _ _ (call (Value.ref 229) _) _ _ _); refine Stop.out ?_) | ((with_reducible show wpAny _ _ (call (Value.ref 236) _) _ _ _); refine Stop.out ?_) | ((with_reducible show wpAny _ _ (call (Value.ref 77) _) _ _ _); refine Stop.out ?_) | ((with_reducible show wpAny _ _ (call (Value.ref 65) _) _ _ _); refine Stop.out ?_) | ((with_reducible show wpAny _ _ (call (Value.ref 241) _) _ _ _); refine Stop.out ?_) | ((with_reducible show wpAny _ _ (call (Value.ref 246) _) _ _ _); refine Stop.out ?_) | ((with_reducible show wpAny _ _ (call (Value.ref 253) _) _ _ _); refine Stop.out ?_) | ((with_reducible show wpAny _ _ (call (Value.ref 105) _) _ _ _); refine Stop.out ?_))
  k_with "my mine ct" => (((rename Ct _ _ _ _ _ _ _ _ _ _ _ => hCt); k_dflt (refine' use_ct hCt ?hh ?hd ?hu ?hA ?B ?F ?K ?T ?hcs ?hX ?_; (case hh => exact rfl); (case hA => exact rfl); (case hd => first | exact Nat.le_of_ble_eq_true rfl | (simp only [depth_in1, depth_deeper]; omega)); (case hu => first | exact Nat.le_of_ble_eq_true rfl | (simp only [units_in1, units_deeper]; omega)); (case B => k_asm); (case F => k_asm); (case K => k_asm); (case T => k_asm); (case hcs => first | exact rfl | assumption); (case hX => first | exact News.inX (by k_asm) (by k_mem) | assumption | (intro x hx; cases hx)))))
  k_with "my storeName" => ((k_here; k_dflt (first | (refine' stK ?F ?N ?_ ?a ?b; (case F => k_asm); (case N => k_asm); (case a => rfl); (case b => rfl); k_whole; intro h' F' N' kS'; (try k_sweep)) | (refine' stC ?F ?N ?c ?U ?d ?_ ?a ?b; (case a => rfl); (case b => rfl); (case F => k_asm); (case N => k_asm); (case c => rfl); (case U => k_updF); (case d => k_asm); k_whole; intro h' o' F' N' d' kS'; (try dsimp only at N'); (try k_sweep)))))
  k_with "my compareOp Is ref ref" => ((k_here; (with_reducible show wpAny _ _ (compareOp CmpOp.Is (Value.ref _) (Value.ref _)) _ _ _); k_dflt (refine' kto_is ?a ?b ?n ?c ?_; (case a => first | kto_obj | (refine' gr_get ?F ?e; (case F => k_asm); (case e => with_reducible assumption))); (case b => first | kto_obj | (refine' gr_get ?F ?e; (case F => k_asm); (case e => with_reducible assumption))); (case n => first | assumption | exact Ne.symm (by assumption) | kto_ne); (case c => kto_not); k_whole)))
  k_with "my compareOp IsNot ref ref" => ((k_here; (with_reducible show wpAny _ _ (compareOp CmpOp.IsNot (Value.ref _) (Value.ref _)) _ _ _); k_dflt (refine' kto_isnot ?a ?b ?n ?c ?_; (case a => first | kto_obj | (refine' gr_get ?F ?e; (case F => k_asm); (case e => with_reducible assumption))); (case b => first | kto_obj | (refine' gr_get ?F ?e; (case F => k_asm); (case e => with_reducible assumption))); (case n => first | assumption | exact Ne.symm (by assumption) | kto_ne); (case c => kto_not); k_whole)))
  k_with "my compareOp Is int ref" => ((k_here; refine wpAny_is_other (by rfl) (by intro x; cases x) ?_))
  k_with "my compareOp IsNot int ref" => ((k_here; refine wpAny_isNot_other (by rfl) (by intro x; cases x) ?_))
  k_with "my compareOp Is ref int" => ((k_here; refine wpAny_is_other (by rfl) (by intro x; cases x) ?_))
  k_with "my compareOp IsNot ref int" => ((k_here; refine wpAny_isNot_other (by rfl) (by intro x; cases x) ?_))
  k_with "my newTuple" => (((rename RawTup => rt9); refine Stop.out ?_))
  k_with "my execs cons" => (((with_reducible show wpAny _ _ _ _ _ _); k_fold; refine wpAny_execs_cons ?_))
  k_with "my chain47" => (first | (with_reducible assumption) | ((with_reducible refine Nat.lt_trans (by assumption) ?_); walk_at "chain47"))
  k_with "my lt47" => (first | (with_reducible assumption) | (with_reducible exact Nat.lt_add_one _) | (with_reducible exact Nat.lt_trans (Nat.lt_add_one _) (Nat.lt_add_one _)) | ((fail_if_success (fail_if_success (with_reducible refine pkG (by assumption) ?_))); first | (with_reducible exact pk0 (by assumption)) | (with_reducible exact pk1 (by assumption)) | (with_reducible exact pk2 (by assumption)) | (with_reducible exact pk3 (by assumption)) | (with_reducible exact pk4 (by assumption)) | (with_reducible exact pk5 (by assumption)) | (with_reducible exact pk6 (by assumption)) | (with_reducible exact pk7 (by assumption)) | (with_reducible exact pk8 (by assumption)) | (with_reducible exact pk9 (by assumption)) | (with_reducible exact pk10 (by assumption)) | (with_reducible exact pk11 (by assumption)) | (with_reducible exact pk12 (by assumption)) | (with_reducible exact pk13 (by assumption)) | (with_reducible exact pk14 (by assumption)) | (with_reducible exact pk15 (by assumption)) | (with_reducible exact pk16 (by assumption)) | (with_reducible exact pk17 (by assumption)) | (with_reducible exact pk18 (by assumption)) | (with_reducible exact pk19 (by assumption))) | walk_at "chain47" | ((with_reducible refine Nat.lt_trans (Nat.lt_add_one _) ?_); walk_at "chain47") | ((with_reducible refine Nat.lt_trans (Nat.lt_trans (Nat.lt_add_one _) (Nat.lt_add_one _)) ?_); walk_at "chain47"))
  k_with "my in47a" => (first | (with_reducible exact pk0) | (with_reducible exact pk1) | (with_reducible exact pk2) | (with_reducible exact pk3) | (with_reducible exact pk4) | (with_reducible exact pk5) | (with_reducible exact pk6) | (with_reducible exact pk7))
  k_with "my in47b" => (first | (with_reducible exact pk8) | (with_reducible exact pk9) | (with_reducible exact pk10) | (with_reducible exact pk11) | (with_reducible exact pk12) | (with_reducible exact pk13) | (with_reducible exact pk14) | (with_reducible exact pk15))
  k_with "my in47c" => (first | (with_reducible exact pk16) | (with_reducible exact pk17) | (with_reducible exact pk18) | (with_reducible exact pk19) | (with_reducible exact pk20) | (with_reducible exact pk21) | (with_reducible exact pk22) | (with_reducible exact pk23))
  k_with "my in47d" => (first | (with_reducible exact pk24) | (with_reducible exact pk25) | (with_reducible exact pk26) | (with_reducible exact pk27) | (with_reducible exact pk28) | (with_reducible exact pk29) | (with_reducible exact pk30) | (with_reducible exact pk31))
  k_with "my in47e" => (first | (with_reducible exact pk32) | (with_reducible exact pk33) | (with_reducible exact pk34) | (with_reducible exact pk35) | (with_reducible exact pk36) | (with_reducible exact pk37) | (with_reducible exact pk38) | (with_reducible exact pk39))
  k_with "my pk47" => (((fail_if_success (fail_if_success (with_reducible refine pkG (by assumption) ?_))); first | ((fail_if_success (fail_if_success ((with_reducible refine pkI (by assumption) ?_); walk_at "in47a"))); first | (with_reducible exact pk0 (by assumption)) | (with_reducible exact pk1 (by assumption)) | (with_reducible exact pk2 (by assumption)) | (with_reducible exact pk3 (by assumption)) | (with_reducible exact pk4 (by assumption)) | (with_reducible exact pk5 (by assumption)) | (with_reducible exact pk6 (by assumption)) | (with_reducible exact pk7 (by assumption))) | ((fail_if_success (fail_if_success ((with_reducible refine pkI (by assumption) ?_); walk_at "in47b"))); first | (with_reducible exact pk8 (by assumption)) | (with_reducible exact pk9 (by assumption)) | (with_reducible exact pk10 (by assumption)) | (with_reducible exact pk11 (by assumption)) | (with_reducible exact pk12 (by assumption)) | (with_reducible exact pk13 (by assumption)) | (with_reducible exact pk14 (by assumption)) | (with_reducible exact pk15 (by assumption))) | ((fail_if_success (fail_if_success ((with_reducible refine pkI (by assumption) ?_); walk_at "in47c"))); first | (with_reducible exact pk16 (by assumption)) | (with_reducible exact pk17 (by assumption)) | (with_reducible exact pk18 (by assumption)) | (with_reducible exact pk19 (by assumption)) | (with_reducible exact pk20 (by assumption)) | (with_reducible exact pk21 (by assumption)) | (with_reducible exact pk22 (by assumption)) | (with_reducible exact pk23 (by assumption))) | ((fail_if_success (fail_if_success ((with_reducible refine pkI (by assumption) ?_); walk_at "in47d"))); first | (with_reducible exact pk24 (by assumption)) | (with_reducible exact pk25 (by assumption)) | (with_reducible exact pk26 (by assumption)) | (with_reducible exact pk27 (by assumption)) | (with_reducible exact pk28 (by assumption)) | (with_reducible exact pk29 (by assumption)) | (with_reducible exact pk30 (by assumption)) | (with_reducible exact pk31 (by assumption))) | ((fail_if_success (fail_if_success ((with_reducible refine pkI (by assumption) ?_); walk_at "in47e"))); first | (with_reducible exact pk32 (by assumption)) | (with_reducible exact pk33 (by assumption)) | (with_reducible exact pk34 (by assumption)) | (with_reducible exact pk35 (by assumption)) | (with_reducible exact pk36 (by assumption)) | (with_reducible exact pk37 (by assumption)) | (with_reducible exact pk38 (by assumption)) | (with_reducible exact pk39 (by assumption)))))
  k_with "my ne47" => (first | (with_reducible exact Nat.ne_of_lt (by assumption)) | (with_reducible exact Nat.ne_of_gt (by assumption)) | ((with_reducible refine Nat.ne_of_lt ?_); walk_at "pk47") | ((with_reducible refine Nat.ne_of_gt ?_); walk_at "pk47") | ((with_reducible refine Nat.ne_of_gt ?_); (with_reducible refine ltTail ?_ (by assumption)); walk_at "pk47") | ((with_reducible refine Nat.ne_of_lt ?_); (with_reducible refine ltTail ?_ (by assumption)); walk_at "pk47") | ((with_reducible refine Nat.ne_of_lt ?_); walk_at "lt47") | ((with_reducible refine Nat.ne_of_gt ?_); walk_at "lt47") | omega)
  k_with "my k_ne" => ((refine neN ?_; (try dsimp only); walk_at "ne47"))
  k_with "my neR47" => ((refine neN ?_; (try dsimp only); first | ((with_reducible refine Nat.ne_of_gt ?_); first | walk_at "pk47" | walk_at "chain47" | ((with_reducible refine ltTail ?_ (by assumption)); walk_at "pk47")) | k_ne))
  k_with "my k_all" => (first | exact List.forall_mem_nil _ | (refine allLt_ne ?_; (try dsimp only [AllLt]); with_reducible assumption) | (refine' List.forall_mem_cons.mpr ⟨?a, ?b⟩; (case a => k_ne); (case b => k_all)))
  k_with "my k_upd" => (first | (refine' Upd.head ?a; (case a => k_all)) | (refine' Upd.tail ?a ?b; (case a => walk_at "neR47"); (case b => k_upd)))
  k_with "my k_updF" => (first | (refine' UpdF.head ?a; (case a => k_all)) | (refine' UpdF.tail ?a ?b; (case a => walk_at "neR47"); (case b => k_updF)))
  exact True.intro
theorem use_at {K : Frag} {c : Addr} {o : Obj} {P : Prop} (e : K.lookup c = some o) (h : K.lookup c = some o → P) : P := h e
def Thing (h : Heap) (v : Value) : Prop := (∃ i t, v = .int i t ∧ t ≠ 0) ∨ ∃ a d es n, v = .ref a ∧ h.get? d = some (dictOf es n) ∧ (h.get? a = some (instObj 38 d) ∨ h.get? a = some (instObj 65 d))
def same : Value → Value → Bool
  | .ref a, .ref b => a == b
  | .int i _, .int j _ => i == j
  | _, _ => false
def apart : Value → Value → Prop
  | .int _ t, .int _ u => t ≠ u
  | _, _ => True
theorem Thing.up {h g : Heap} {x : Value} {X : List Addr} (t : Thing h x) (k : Kept X h g) (hX : ∀ p ∈ X, ∃ o, h.get? p = some o ∧ ∃ vs n, o = listOf vs n) : Thing g x := by
  rcases t with t | ⟨a, d, es, n, e, ed, ea⟩
  · exact .inl t
  · refine .inr ⟨a, d, es, n, e, k _ _ ed fun q => ?_, ea.imp (fun e => k _ _ e fun q => ?_) (fun e => k _ _ e fun q => ?_)⟩
    · obtain ⟨o, e, vs, n, rfl⟩ := hX _ q; rw [ed] at e; have := congrArg (fun o => o.map Obj.cls) e; simp at this
    · obtain ⟨o, e', vs, n, rfl⟩ := hX _ q; rw [e] at e'; cases e'
    · obtain ⟨o, e', vs, n, rfl⟩ := hX _ q; rw [e] at e'; cases e'
theorem booked_of {h₀ h : Heap} {L : Addr} {m : Str → Option Value} (F : Fr h₀ L h m) (b : NoneBooked h₀) : NoneBooked h := let ⟨mc, n, e⟩ := b; ⟨mc, n.keeps F.keep, e⟩
theorem booked_in {K : Frag} {h : Heap} (X : K.In h) (e : K.lookup 2 = some { cls := Value.none, data := Data.dict #[] }) : NoneBooked h := ⟨fun _ => none, ⟨_, _, _, X _ _ e, rfl, by intro _ h; simp at h, fun _ => rfl⟩, rfl⟩
theorem is_ints {prog : Program} {w : World} {A : Around} {E : Value → Shared → Prop} {s : Shared} {p q : Int} {t u : Tok} {Q : Value → Shared → Prop} (ht : t ≠ 0) (hu : u ≠ 0) (htu : t ≠ u) (hb : NoneBooked s.heap) (hq : ∀ b, (b = true → p = q) → Q (.bool b) s) :
    wpAny (model prog w) A (compareOp .Is (.int p t) (.int q u)) Q E s := by
  have h0 : (t == 0 || u == 0) = false := by simp [ht, hu]
  have h1 : (t == u) = false := by simpa using htu
  show wpAny _ A (do return .bool (← isSame (.int p t) (.int q u))) Q E s
  refine wpAny_bind ?_
  show wpAny _ A (if (p == q && smallInt p) = true then isSame.cachedInt t u else isSame.created (p == q) t u) _ _ _
  refine wpAny_ite ?_
  split
  · rename_i h
    have hpq : p = q := by simp at h; exact h.1
    show wpAny _ A (if (t == 0 || u == 0) = true then _ else _) _ _ _
    rw [h0]
    exact wpAny_bind (wpAny_rule (wpAny_pure (wpAny_pure (hq true fun _ => hpq))))
  · unfold isSame.created
    refine wpAny_ite ?_
    rw [h0, if_neg (by simp)]
    refine wpAny_ite ?_
    rw [h1, if_neg (by simp)]
    refine wpAny_ite ?_
    split
    · exact wpAny_pure (wpAny_pure (hq _ (by simp)))
    · rename_i h
      have hpq : p = q := by simpa using h
      refine wpAny_bind (wpAny_sharingNotTold_none hb ?_)
      first | rw [if_neg Bool.false_ne_true] | simp only [Bool.false_eq_true, if_false]
      refine wpAny_bind (wpAny_sharingNotTold_none hb ?_)
      first | rw [if_neg Bool.false_ne_true] | simp only [Bool.false_eq_true, if_false]
      exact wpAny_bind (wpAny_rule (wpAny_bind (wpAny_askSetting (wpAny_pure (wpAny_pure (hq _ fun _ => hpq))))))
section
variable {prog : Program} {w : World} {A : Around} {E : Value → Shared → Prop} {env : Env} {s : Shared}
theorem enum_list {l : Addr} {items : Array Value} {Q : Value → Shared → Prop} (hL : s.heap.IsList l items)
    (h : ∀ e it h', IsEnum h' e it 0 .none → h'.IsListIter it l 0 → e ≠ it → s.heap.get? e = none → s.heap.get? it = none → Kept [] s.heap h' → Q (.ref e) { s with heap := h' }) :
    wpAny (model prog w) A (call (.type "enumerate") [.ref l]) Q E s :=
  call_enumerate_list hL fun h' a b _ d => h _ _ h' a b (Nat.succ_ne_self _) (none_of_size (Nat.le_succ _)) (none_of_size (Nat.le_refl _)) fun b o e _ => d b o e
theorem EnumJ {target iter : Expr} {pos : Pos} {body : List Stmt} {Q : Flow → Shared → Prop} (hs : ∀ x, foldedSetIterable iter env x = pure x)
    (h : wpAny (model prog w) A (eval iter env) (fun xv s₁ => Stop (wpAny (model prog w) A (pyIter xv) (fun it s₂ => codeAny (model prog w) A (.forLoop target it body [] env) (fun r s' => match r with | .ok f => Q f s' | .error e => cameBackBy (model prog w) A env E e s') s₂) E s₁)) E s) :
    wpAny (model prog w) A (exec (.For target iter body [] pos) env) Q E s := wpAny_For h hs
theorem enumLoop {R : Result → Shared → Prop} {xi xv : Str} {pi pv pt : Pos} {x1} {body : List Stmt} {e it l : Addr} {items : List Value} {m : Str → Option Value}
    (hh : A.handled = none) (hxi : env.kindOf xi = some .local) (hxv : env.kindOf xv = some .local)
    (hp : (env.scope.kind == .class || (env.scope.kind == .module && env.locals != env.globals)) = false)
    (hei : e ≠ it) (heL : e ≠ env.locals) (hiL : it ≠ env.locals) (hlL : l ≠ env.locals) (hle : l ≠ e) (hli : l ≠ it)
    (he : IsEnum s.heap e it 0 .none) (hit : s.heap.IsListIter it l 0) (hl : s.heap.IsList l (List.toArray items)) (hn : s.heap.Ns env.locals m)
    (J : Nat → (Str → Option Value) → Heap → Prop) (hJ0 : J 0 m s.heap)
    (hJk : ∀ i m h h', J i m h → (∀ b o, b ≠ env.locals → b ≠ e → b ≠ it → h.get? b = some o → h'.get? b = some o) → J i m h')
    (turn : ∀ i v tk m₁ s₁ E', items[i]? = some v → J i m₁ s₁.heap → s₁.heap.Ns env.locals (fun y => if y = xv then some v else if y = xi then some (.int i tk) else m₁ y) → (∃ o, s₁.heap.get? e = some o) → (∃ o, s₁.heap.get? it = some o) → (∃ h tk, s₁ = { s with heap := h, toks := tk }) →
      wpAny (model prog w) A (execs body env) (TurnF env.locals [e, it, l] (J (i + 1)) (fun f s' => R (.ok f) s') s₁) E' s₁)
    (done : ∀ h' tk m', h'.Ns env.locals m' → J items.length m' h' → R (.ok .next) { s with heap := h', toks := tk }) :
    codeAny (model prog w) A (.forLoop (.Tuple [.Name xi pi, .Name xv pv] x1 pt) (.ref e) body [] env) R s := by
  refine codeAny_forLoop_any
    (fun k s' => ∃ h' tk m' i old, s' = { s with heap := h', toks := tk } ∧ IsEnum h' e it ((i : Nat) : Int) old ∧ h'.IsListIter it l i ∧ h'.IsList l (List.toArray items) ∧ h'.Ns env.locals m' ∧ J i m' h' ∧ i ≤ items.length ∧
      k = items.length + 1 - i) ?_ (items.length + 1)
    ⟨s.heap, s.toks, m, 0, .none, rfl, he, hit, hl, hn, hJ0, Nat.zero_le _, rfl⟩
  rintro k s' ⟨H, tk, m', i, old, rfl, he', hit', hl', hn', hJ, hi, rfl⟩
  cases hv : (List.toArray items)[i]? with
  | none =>
    have hsz : i = items.length := Nat.le_antisymm hi (by simpa using hv)
    subst hsz
    refine wpAny_pyNext_enum_end hh he' hit' hl' hv fun h₁ he₁ => wpAny_execs_nil ?_
    exact done h₁ tk m' (hn'.extBut he₁ (Ne.symm hiL)) (hJk _ _ _ _ hJ fun b o hbL hbe hbi x => he₁ b o hbi x)
  | some v =>
    have hlt : i < items.length := by simpa using (Array.getElem?_eq_some_iff.mp hv).1
    have heH : e < H.objs.size := Heap.lt_size he'
    have hLH : env.locals < H.objs.size := hn'.lt
    obtain ⟨oi, hoi, _⟩ := id hit'
    obtain ⟨ol, hol, _⟩ := id hl'
    have hiH : it < H.objs.size := Heap.lt_size hoi
    have hlH : l < H.objs.size := Heap.lt_size hol
    refine wpAny_pyNext_enum_item he' hit' hl' hv hei fun h₁ heo hit₁ ht₁ hz₁ hk₁ => ?_
    refine wpAny_letOwnedTupleGo_enum heo fun h₂ he₂ hs₂ => ?_
    replace hs₂ : Heap.SameBut e h₁ h₂ := hs₂
    have ht₂ : h₂.IsTuple H.objs.size #[.int i tk, v] := ⟨_, (hs₂.2 _ (Nat.ne_of_gt heH)).trans ht₁, rfl, _, rfl⟩
    have hz₂ : h₂.objs.size = H.objs.size + 1 := hs₂.1.trans hz₁
    refine wpAny_assign_Tuple hh ht₂ rfl rfl fun h₃ hx₃ => ?_
    replace hx₃ : Heap.ExtBut h₂.objs.size h₂ h₃ := hx₃
    have old₃ : ∀ b o, b < H.objs.size → h₂.get? b = some o → h₃.get? b = some o := fun b o hb x => hx₃ b o (by rw [hz₂]; exact Nat.ne_of_lt (Nat.lt_succ_of_lt hb)) x
    have hn₃ : h₃.Ns env.locals m' := (hn'.at fun o x => hk₁ _ o (Ne.symm heL) (Ne.symm hiL) x).sameBut hs₂ (Ne.symm heL) |>.at fun o x => old₃ _ o hLH x
    show wpAny _ A (do holding [v] (assign (.Name xi pi) env (.int i tk)); do holding [] (assign (.Name xv pv) env v); pure ()) _ _ _
    refine wpAny_bind (wpAny_holding (wpAny_assign_Name (wpAny_storeName_local hxi hn₃ (fun h₄ hn₄ hs₄ => ?_) hp)))
    replace hs₄ : Heap.SameBut env.locals h₃ h₄ := hs₄
    refine wpAny_bind (wpAny_holding (wpAny_assign_Name (wpAny_storeName_local hxv hn₄ (fun h₅ hn₅ hs₅ => wpAny_pure ?_) hp)))
    replace hs₅ : Heap.SameBut env.locals h₄ h₅ := hs₅
    have up5 : ∀ b o, b ≠ env.locals → b < H.objs.size → h₂.get? b = some o → h₅.get? b = some o := fun b o hbL hb x =>
      hs₅.extBut b o hbL (hs₄.extBut b o hbL (old₃ b o hb x))
    have hJ₅ : J i m' h₅ := hJk _ _ _ _ hJ fun b o hbL hbe hbi x => up5 b o hbL (Heap.lt_size x) (hs₂.extBut b o hbe (hk₁ b o hbe hbi x))
    have e₅ := up5 e _ heL heH he₂
    have i₅ : h₅.IsListIter it l (i + 1) := (hit₁.extBut hs₂.extBut (Ne.symm hei)).at fun o x => up5 it o hiL hiH x
    have l₅ : h₅.IsList l (List.toArray items) := ((hl'.at fun o x => hk₁ l o hle hli x).extBut hs₂.extBut hle).at fun o x => up5 l o hlL hlH x
    obtain ⟨oi5, hoi5, _⟩ := id i₅
    refine wpAny_mono (turn i v tk m' _ _ (by simpa using hv) hJ₅ hn₅ ⟨_, e₅⟩ ⟨_, hoi5⟩ ⟨_, _, rfl⟩) (fun f s₃ hF => ?_) fun _ _ x => x
    have fin : (∃ h₄ tk₄ m₄, s₃ = { s with heap := h₄, toks := tk₄ } ∧ h₄.Ns env.locals m₄ ∧ (∀ b ∈ [e, it, l], ∀ o, h₅.get? b = some o → h₄.get? b = some o) ∧ J (i + 1) m₄ h₄) →
        ∃ m, m < items.length + 1 - i ∧ ∃ h' tk m' i old, s₃ = { s with heap := h', toks := tk } ∧ IsEnum h' e it ((i : Nat) : Int) old ∧ h'.IsListIter it l i ∧ h'.IsList l (List.toArray items) ∧ h'.Ns env.locals m' ∧ J i m' h' ∧ i ≤ items.length ∧ m = items.length + 1 - i := by
      rintro ⟨h₆, tk₆, m₆, rfl, hn₆, k₆, hJ₆⟩
      refine ⟨items.length + 1 - (i + 1), by omega, h₆, tk₆, m₆, i + 1, v, rfl, ?_, i₅.at fun o x => k₆ _ (by simp) o x, l₅.at fun o x => k₆ _ (by simp) o x, hn₆, hJ₆, hlt, rfl⟩
      have : ((i + 1 : Nat) : Int) = (i : Int) + 1 := by push_cast; rfl
      rw [this]
      exact k₆ _ (by simp) _ e₅
    cases f with
    | next => exact fin hF
    | cont => exact fin hF
    | brk => exact hF
    | ret v => exact hF
end
end

section
theorem calm18 : True := by
  w_top off
  exact True.intro
theorem words16 : True := by
  k_with "my execs cons" => (refine wpAny_execs_cons ?_)
  exact True.intro
theorem upd_two {x z : Str} {v v' u u' : Option Value} {f : Str → Option Value} : (fun y => if y = x then v else if y = z then v' else if y = x then u else if y = z then u' else f y) = fun y => if y = x then v else if y = z then v' else f y := by
  funext y
  by_cases h : y = x
  · simp [h]
  · by_cases h2 : y = z <;> simp [h, h2]
def put (its : List Value) (v : Value) : List Value := if its.any (same · v) then its else its ++ [v]
theorem fp3 {s h : Heap} {e it vl : Addr} {oE oI oV : Obj} (a : s.get? e = some oE) (b : s.get? it = some oI) (c : s.get? vl = some oV) (a' : h.get? e = some oE) (b' : h.get? it = some oI) (c' : h.get? vl = some oV) : ∀ b ∈ [e, it, vl], ∀ o, s.get? b = some o → h.get? b = some o := by
  intro z hz o eo
  rcases List.mem_cons.mp hz with rfl | hz
  · rw [a] at eo; rw [a', eo]
  rcases List.mem_cons.mp hz with rfl | hz
  · rw [b] at eo; rw [b', eo]
  rw [List.mem_singleton.mp hz] at eo ⊢; rw [c] at eo; rw [c', eo]
theorem take_next {its : List Value} {i : Nat} {own v : Value} (hi : its[i]? = some own) (hs : ∀ x ∈ its.take i, same x v = false) (ho : same own v = false) : ∀ x ∈ its.take (i + 1), same x v = false := by
  intro x hx
  rw [List.take_add_one, hi] at hx
  rcases List.mem_append.mp hx with hx | hx
  · exact hs x hx
  · simp at hx; subst hx; exact ho
theorem found_at : ∀ {its : List Value} {i : Nat} {own v : Value}, its[i]? = some own → (∀ x ∈ its.take i, same x v = false) → same own v = true → its.findIdx (same · v) = i ∧ put its v = its := by
  intro its
  have hany : ∀ {its : List Value} {i : Nat} {own v : Value}, its[i]? = some own → same own v = true → put its v = its := by
    intro its i own v hi ho
    unfold put
    rw [if_pos]
    exact List.any_eq_true.mpr ⟨own, List.mem_of_getElem? hi, ho⟩
  induction its with
  | nil => intro i own v hi; simp at hi
  | cons x r ih =>
    intro i own v hi hs ho
    refine ⟨?_, hany hi ho⟩
    cases i with
    | zero => simp at hi; subst hi; simp [List.findIdx_cons, ho]
    | succ i =>
      have h1 : same x v = false := hs x (by simp)
      have := (ih (by simpa using hi) (fun y hy => hs y (by simp [hy])) ho).1
      simp [List.findIdx_cons, h1, this]
theorem found_none {its : List Value} {v : Value} (hs : ∀ x ∈ its, same x v = false) : its.findIdx (same · v) = its.length ∧ put its v = its ++ [v] := by
  refine ⟨List.findIdx_eq_length.mpr hs, ?_⟩
  unfold put
  rw [if_neg]
  intro h
  obtain ⟨x, hx, h⟩ := List.any_eq_true.mp h
  rw [hs x hx] at h; cases h
theorem is_refs {prog : Program} {w : World} {A : Around} {E : Value → Shared → Prop} {s : Shared} {x y : Addr} {ox oy : Obj} {Q : Value → Shared → Prop} (hx : s.heap.get? x = some ox) (hy : s.heap.get? y = some oy) (hnt : ox.cls ≠ .type "tuple") (hq : ∀ b, (b = true ↔ x = y) → Q (.bool b) s) :
    wpAny (model prog w) A (compareOp .Is (.ref x) (.ref y)) Q E s := by
  by_cases h : x = y
  · subst h; exact wpAny_is_ref_self (hq true (by simp))
  · exact wpAny_is_ref_other h hx hy hnt (hq false (by simp [h]))
def isI : Value → Bool
  | .int _ _ => true
  | _ => false
theorem is_things {prog : Program} {w : World} {A : Around} {E : Value → Shared → Prop} {s : Shared} {x y : Value} {Q : Value → Shared → Prop} (hx : Thing s.heap x) (hy : Thing s.heap y) (ha : apart x y) (hb : NoneBooked s.heap) (hq : ∀ b, (b = true → same x y = true) → (b = false → isI x = false ∨ isI y = false → same x y = false) → Q (.bool b) s) :
    wpAny (model prog w) A (compareOp .Is x y) Q E s := by
  rcases hx with ⟨p, t, rfl, ht⟩ | ⟨a, d, es, n, rfl, hd, h1⟩ <;> rcases hy with ⟨q, u, rfl, hu⟩ | ⟨a', d', es', n', rfl, hd', h2⟩
  · exact is_ints ht hu ha hb fun b h => hq b (fun e => by simpa [same] using h e) (fun _ h => by simp [isI] at h)
  · exact wpAny_is_other (by rfl) (by intro x; cases x) (hq false (by simp) fun _ _ => rfl)
  · exact wpAny_is_other (by rfl) (by intro x; cases x) (hq false (by simp) fun _ _ => rfl)
  · obtain ⟨o1, e1, c1⟩ : ∃ o1, s.heap.get? a = some o1 ∧ o1.cls ≠ .type "tuple" := h1.elim (fun e => ⟨_, e, by intro q; cases q⟩) fun e => ⟨_, e, by intro q; cases q⟩
    obtain ⟨o2, e2⟩ : ∃ o2, s.heap.get? a' = some o2 := h2.elim (fun e => ⟨_, e⟩) fun e => ⟨_, e⟩
    refine is_refs e1 e2 c1 fun b h => hq b (fun e => by simpa [same] using h.mp e) fun e _ => ?_
    subst e
    simpa [same] using fun q => absurd (h.mpr q) (by simp)
theorem words17 : True := by
  k_with "my k_inst" => ((refine' InstAt.of_gr ?F ?h1 ?h2; (case F => k_asm); (case h1 => with_reducible assumption); (case h2 => with_reducible assumption)))
  exact True.intro
set_option maxHeartbeats 4000000 in
theorem wh_ct {w : World} {mg mb : Str → Option Value} {mean : ExcName → Option Value} {s : Shared} {v : Value} (hv : Thing s.heap v) :
    Ct w mg mb mean 700 3000 84 [v] s [] (fun r h' => r = .bool (isI v)) := by
  rcases hv with ⟨q, u, rfl, hu⟩ | ⟨va, vd, ves, vn, rfl, hvd, hva | hva⟩
  all_goals (
    unfold Ct
    k_fill
    intro gd cn cs a ccd cl outer A₀ base h₀ L m Q E B F X T hcs hX hret
    have N : News h₀ L s.heap [] := News.nil
    walk_at "mine enter"
    intro g L' h₁ FG F₁ N₁ BG XG TG kG; (try dsimp only)
    (try (have hva := kG _ _ hva (by simp)))
    (try (have hvd := kG _ _ hvd (by simp)))
    k_steps
    all_goals ((rename Fr g _ _ _ => Fe); exact hret _ _ _ (fun b o e n => Fe.keep b o (kG b o e n)) rfl))
abbrev storeD (w : World) (vl : Addr) (t : Tok) : Obj := dictOf [⟨PyData.keyHash w.params (Str.ofString "values"), .str (Str.ofString "values") t, .ref vl⟩] 1
theorem words18 : True := by
  k_with "my exec For Tuple Call cons nil" => (refine Stop.out ?_)
  k_with "my exec For" => (refine Stop.out ?_)
  k_with "my call type:enumerate" => (refine Stop.out ?_)
  k_with "my k_inst" => ((refine' InstAt.of_gr ?F ?h1 ?h2; (case F => k_asm); (case h1 => with_reducible assumption); (case h2 => with_reducible assumption)))
  k_with "my call ref" => (((with_reducible show wpAny _ _ (call (Value.ref 84) _) _ _ _); refine Stop.out ?_))
  exact True.intro
set_option maxHeartbeats 4000000 in
theorem index_ct {w : World} {mg mb : Str → Option Value} {mean : ExcName → Option Value} {s : Shared} {st dx vl : Addr} {its : List Value} {v : Value} {nl : Nat} {tv : Tok}
    (e1 : s.heap.get? st = some (instObj 115 dx)) (e2 : s.heap.get? dx = some (storeD w vl tv)) (e3 : s.heap.get? vl = some (listOf (List.toArray its) nl)) (hlen : its.length ≤ 20) (hT : ∀ x ∈ its, Thing s.heap x ∧ apart x v) (hv : Thing s.heap v) :
    Ct w mg mb mean 590 1900 105 [.ref st, v] s [vl] (fun r h' => ∃ t n', r = .int ((its.findIdx (same · v) : Nat) : Int) t ∧ h'.get? vl = some (listOf (List.toArray (put its v)) n')) := by
  unfold Ct
  k_fill
  intro gd cn cs a ccd cl outer A₀ base h₀ L m Q E B F X T hcs hX hret
  have N : News h₀ L s.heap [(vl, listOf (List.toArray its) nl)] := fun q hq => by
    rw [List.mem_singleton.mp hq]; exact ⟨e3, (hX vl (.head _)).2, (hX vl (.head _)).1⟩
  have d1 : st ≠ vl := by rintro rfl; rw [e3] at e1; cases e1
  have d2 : dx ≠ vl := by rintro rfl; rw [e3] at e2; have := congrArg (fun o => o.map Obj.cls) e2; simp at this
  walk_at "mine enter"
  intro g L' h₁ FG F₁ N₁ BG XG TG kG; (try dsimp only)
  refine' use_at (K := hd47.heap_39 w.params) (c := 2) ?a ?_
  case a => k_is
  intro eS
  have hnb := booked_in XG eS
  clear eS
  have hX3 : ∀ p ∈ [vl], ∃ o, s.heap.get? p = some o ∧ ∃ vs n, o = listOf vs n := fun p hp => by rw [List.mem_singleton.mp hp]; exact ⟨_, e3, _, _, rfl⟩
  replace hv := Thing.up hv (X := [vl]) kG hX3
  replace hT := fun x hx => And.intro (Thing.up (hT x hx).1 (X := [vl]) kG hX3) (hT x hx).2
  have e1 := kG _ _ e1 (by simpa using d1)
  have e2 := kG _ _ e2 (by simpa using d2)
  k_steps
  refine Stop.mk ?_
  refine EnumJ (by intro _; with_unfolding_all rfl) ?_
  k_steps
  refine Stop.mk ?_
  (rename Fr g _ _ _ => Fe); (rename News g _ _ _ => Ne)
  have ev := Ne.get (a := vl) (o := listOf (List.toArray its) nl) (by k_mem)
  have iv : Heap.IsList _ vl (List.toArray its) := ⟨_, ev, rfl, _, rfl⟩
  refine enum_list iv ?_
  intro e it h5 he hit hei f1 f2 k5
  refine Stop.mk ?_
  refine wpAny_pyIter_enum he ?_
  have nE := Fr.new Fe f1
  have nI := Fr.new Fe f2
  have v1 := (Ne (vl, listOf (List.toArray its) nl) (by k_mem)).2
  have F5 := Fr.kept Fe k5 (by simp)
  have evE : e ≠ vl := by rintro rfl; rw [ev] at f1; cases f1
  have evI : it ≠ vl := by rintro rfl; rw [ev] at f2; cases f2
  have ev5 := k5 _ _ ev (by simp)
  obtain ⟨mE, I, hmE, _, _, _, _, FE⟩ := Fr.name F5
  clear Fe Ne F5 ev iv
  refine enumLoop (rfl) (by with_unfolding_all rfl) (by with_unfolding_all rfl) (by with_unfolding_all rfl) hei nE.1 nI.1 v1.1 (Ne.symm evE) (Ne.symm evI) he hit ⟨_, ev5, rfl, _, rfl⟩ FE.ns
    (fun i m h => (∀ b o, g.get? b = some o → h.get? b = some o) ∧ h.get? vl = some (listOf (List.toArray its) nl) ∧ (∀ x ∈ its.take i, same x v = false) ∧ ∃ u u', m = (fun z => if z = Str.ofString "own" then u else if z = Str.ofString "index" then u' else mE z)) ?_ ?_ ?_ ?_
  · refine ⟨FE.keep, ev5, by simp, none, none, ?_⟩
    funext z
    by_cases h1 : z = Str.ofString "own"
    · subst h1; rw [hmE]; with_unfolding_all rfl
    · by_cases h2 : z = Str.ofString "index"
      · subst h2; rw [hmE]; with_unfolding_all rfl
      · simp [h1, h2]
  · rintro i m h h' ⟨k, ek, hs, hm⟩ kk
    refine ⟨fun b o e' => kk b o ?_ ?_ ?_ (k b o e'), kk _ _ v1.1 (Ne.symm evE) (Ne.symm evI) ek, hs, hm⟩
    · exact fun q => Nat.lt_irrefl _ (Nat.lt_of_lt_of_le (Heap.lt_size (q ▸ e')) FE.above)
    · rintro rfl; rw [nE.2] at e'; cases e'
    · rintro rfl; rw [nI.2] at e'; cases e'
  · rintro i own tk m₁ s₁ E' hi ⟨kk, ek, hs, u, u', rfl⟩ hn ⟨oE, eE⟩ ⟨oI, eI⟩ hs1
    simp only [upd_two] at hn
    have F₃ : Fr g L' s₁.heap _ := ⟨hn, kk, FE.above⟩
    have N₃ : News g L' s₁.heap [(vl, listOf (List.toArray its) nl), (e, oE), (it, oI)] := by
      intro q hq
      rcases List.mem_cons.mp hq with rfl | hq
      · exact ⟨ek, v1⟩
      rcases List.mem_cons.mp hq with rfl | hq
      · exact ⟨eE, nE⟩
      rw [List.mem_singleton.mp hq]; exact ⟨eI, nI⟩
    obtain ⟨hO, hA⟩ := hT own (List.mem_of_getElem? hi)
    subst hmE
    clear FE
    k_steps
    (rename Fr g _ _ _ => Fe); (rename News g _ _ _ => Ne)
    refine is_things (Thing.up hO (X := []) (fun b o e _ => Fr.keep Fe b o e) (by simp)) (Thing.up hv (X := []) (fun b o e _ => Fr.keep Fe b o e) (by simp)) hA (booked_of Fe hnb) ?_
    intro bb hb1 hb2
    cases bb
    · k_steps
      (with_reducible refine Stop.mk ?_)
      (rename Fr g _ _ _ => Fe); (rename News g _ _ _ => Ne)
      (refine' use_ct (wh_ct (Thing.up hO (X := []) (fun b o e _ => Fr.keep Fe b o e) (by simp))) ?hh ?hd ?hu ?hA ?B ?F ?K ?T ?hcs ?hX ?_; (case hh => exact rfl); (case hA => exact rfl); (case hd => exact Nat.le_of_ble_eq_true rfl); (case hu => exact Nat.le_of_ble_eq_true rfl); (case B => k_asm); (case F => exact Fe); (case K => k_asm); (case T => k_asm); (case hcs => exact rfl); (case hX => intro x hx; cases hx))
      rintro r6 h6 tk6 F6 k6 rfl
      have N6 := News.all Ne k6
      clear Ne Fe k6
      (try dsimp only)
      cases hi1 : isI own
      · k_steps
        (rename Fr g _ _ _ => Fz); (rename News g _ _ _ => Nz)
        refine ⟨_, _, _, rfl, Fz.ns, fp3 eE eI ek (Nz.get (by k_mem)) (Nz.get (by k_mem)) (Nz.get (by k_mem)), Fz.keep, Nz.get (by k_mem), take_next hi hs ?_, _, _, rfl⟩
        exact hb2 rfl (.inl hi1)
      · k_steps
        (with_reducible refine Stop.mk ?_)
        (rename Fr g _ _ _ => Fe); (rename News g _ _ _ => Ne)
        (refine' use_ct (wh_ct (Thing.up hv (X := []) (fun b o e _ => Fr.keep Fe b o e) (by simp))) ?hh ?hd ?hu ?hA ?B ?F ?K ?T ?hcs ?hX ?_; (case hh => exact rfl); (case hA => exact rfl); (case hd => exact Nat.le_of_ble_eq_true rfl); (case hu => exact Nat.le_of_ble_eq_true rfl); (case B => k_asm); (case F => exact Fe); (case K => k_asm); (case T => k_asm); (case hcs => exact rfl); (case hX => intro x hx; cases hx))
        rintro r7 h7 tk7 F7 k7 rfl
        have N7 := News.all Ne k7
        clear Ne Fe k7
        (try dsimp only)
        cases hi2 : isI v
        · k_steps
          (rename Fr g _ _ _ => Fz); (rename News g _ _ _ => Nz)
          refine ⟨_, _, _, rfl, Fz.ns, fp3 eE eI ek (Nz.get (by k_mem)) (Nz.get (by k_mem)) (Nz.get (by k_mem)), Fz.keep, Nz.get (by k_mem), take_next hi hs ?_, _, _, rfl⟩
          exact hb2 rfl (.inr hi2)
        · obtain ⟨p, t, rfl⟩ : ∃ p t, own = .int p t := by cases own <;> simp [isI] at hi1; exact ⟨_, _, rfl⟩
          obtain ⟨q, u, rfl⟩ : ∃ q u, v = .int q u := by cases v <;> simp [isI] at hi2; exact ⟨_, _, rfl⟩
          k_steps
          · skip
            dsimp only [TurnF]
            k_steps
            (rename Fr g _ _ _ => Fz); (rename News g _ _ _ => Nz)
            have hfo := found_at (its := its) hi hs (by simp [same]; assumption)
            obtain ⟨h3, tk3, rfl⟩ := hs1
            refine' hret _ _ _ ?k1 ⟨_, _, ?k2, ?k3⟩
            (case k2 => rw [hfo.1])
            (case k1 => exact fun b o e n => Fz.keep b o (kG b o e n))
            (case k3 => rw [hfo.2]; exact Nz.get (by k_mem))
          · skip
            (rename Fr g _ _ _ => Fz); (rename News g _ _ _ => Nz)
            refine ⟨_, _, _, rfl, Fz.ns, fp3 eE eI ek (Nz.get (by k_mem)) (Nz.get (by k_mem)) (Nz.get (by k_mem)), Fz.keep, Nz.get (by k_mem), take_next hi hs ?_, _, _, rfl⟩
            simpa [same] using ‹_›
    · k_steps
      dsimp only [TurnF]
      k_steps
      (rename Fr g _ _ _ => Fz); (rename News g _ _ _ => Nz)
      have hfo := found_at (its := its) hi hs (hb1 rfl)
      obtain ⟨h3, tk3, rfl⟩ := hs1
      refine' hret _ _ _ ?k1 ⟨_, _, ?k2, ?k3⟩
      (case k2 => rw [hfo.1])
      (case k1 => exact fun b o e n => Fz.keep b o (kG b o e n))
      (case k3 => rw [hfo.2]; exact Nz.get (by k_mem))
  · intro h' tk m' hn ⟨kk, ek, hs, u, u', hm⟩
    subst hm
    rw [List.take_length] at hs
    have F6 : Fr g L' h' _ := ⟨hn, kk, FE.above⟩
    have N6 : News g L' h' [(vl, listOf (List.toArray its) nl)] := by
      intro q hq
      rw [List.mem_singleton.mp hq]; exact ⟨ek, v1⟩
    subst hmE
    clear FE
    dsimp only
    k_steps
    (rename Fr g _ _ _ => Fe); (rename News g _ _ _ => Ne)
    have il : Heap.IsList _ vl (List.toArray (its ++ [v])) := ⟨_, Ne.get (a := vl) (o := listOf (List.toArray (its ++ [v])) _) (by k_mem), rfl, _, rfl⟩
    refine PyProof.Rows.len_list il (by simp; omega) ?_
    clear il
    k_steps
    (rename Fr g _ _ _ => Fz); (rename News g _ _ _ => Nz)
    have hfo := found_none hs
    refine' hret _ _ _ ?k1 ⟨_, _, ?k2, ?k3⟩
    (case k2 => rw [hfo.1, ← (show ((List.toArray (its ++ [v])).size : Int) - 1 = (its.length : Int) by simp)])
    (case k1 => exact fun b o e n => Fz.keep b o (kG b o e n))
    (case k3 => rw [hfo.2]; exact Nz.get (by k_mem))
end

section
theorem calm19 : True := by
  w_top off
  exact True.intro
theorem words19 : True := by
  k_with_none
  k_with "my k_room" => (first | exact Nat.le_of_ble_eq_true rfl | (simp only [depth_under_make, depth_under_kw, depth_in1, depth_deeper, depth_caller, recursionLimit] at *; omega))
  k_with "my eval ListComp" => (((fail_if_success (rename LibOk => x9)); refine Stop.out ?_))
  k_with "my exec Assign cons ListComp" => (((fail_if_success (rename LibOk => x9)); refine Stop.out ?_))
  k_with "my mine enter" => ((
  refine wpAny_call ?_
  first
  | (refine' code_defG ?k1 ?k2 ?k3 ?k4 ?k5 ?kA ?kF ?kK ?k6 ?k7 ?k8 ?k9 ?kB ?_ ?c2 ?c3 ?c4 ?c5; (case kA => exact rfl); (case kF => exact rfl); (case kK => first | exact rfl | assumption); (case k1 => k_asm); (case k2 => k_asm); (case k3 => k_asm); (case k4 => k_asm); (case k5 => k_asm); (case k6 => k_is); (case k7 => k_is); (case k8 => k_room); (case k9 => first | exact BindsTo.of_eq rfl | exact binds_K (by k_in) rfl (by k_is) rfl rfl rfl | fail "mine enter: binds"); (case c5 => decide); (case kB => exact locs rfl); (case c2 => exact rfl); (case c3 => exact rfl); (case c4 => exact rfl); k_whole)
  | (refine' code_defCG ?k1 ?k2 ?k3 ?k4 ?k5 ?kA ?kF ?kK ?k6 ?k7 ?k8 ?k9 ?kB ?kD ?_ ?c2 ?c3 ?c4; (case kA => exact rfl); (case kF => exact rfl); (case kK => first | exact rfl | assumption); (case k1 => k_asm); (case k2 => k_asm); (case k3 => k_asm); (case k4 => k_asm); (case k5 => k_asm); (case k6 => k_is); (case k7 => k_is); (case k8 => k_room); (case k9 => first | exact BindsTo.of_eq rfl | exact binds_K (by k_in) rfl (by k_is) rfl rfl rfl | fail "mine enter: binds"); (case kB => exact rfl); (case kD => decide +kernel); (case c2 => exact rfl); (case c3 => exact rfl); (case c4 => exact rfl); k_whole)))
  k_with "my mine dip" => ((k_here; k_dflt (refine' use_dip ?hh ?hd ?hu ?hA ?B ?F ?K ?T ?hcs ?N ?V ?h0 ?hx0 ?hx1 ?hl ?hk ?_; (case hh => exact rfl); (case hA => exact rfl); (case hd => first | exact Nat.le_of_ble_eq_true rfl | (simp only [depth_in1, depth_deeper]; omega)); (case hu => first | exact Nat.le_of_ble_eq_true rfl | (simp only [units_in1, units_deeper]; omega)); (case B => k_asm); (case F => k_asm); (case K => k_asm); (case T => k_asm); (case hcs => first | exact rfl | assumption); (case N => k_asm); (case V => k_updF); (case h0 => assumption); (case hx0 => assumption); (case hx1 => assumption); (case hl => (refine' IntsAt.up ?ha (Fr.keep ?hb); (case hb => k_asm); (case ha => k_asm))); (case hk => decide); k_whole); intro i' t' at' ta' x' tx' n' h' tk' b0 b1 b2 b3 b4 F' N'; (try dsimp only at N'); (try k_sweep)))
  k_with "my call ref" => (first | walk_at "mine dip" | ((with_reducible show wpAny _ _ (call (Value.ref 168) _) _ _ _); refine Stop.out ?_) | ((with_reducible show wpAny _ _ (call (Value.ref 188) _) _ _ _); refine Stop.out ?_) | ((with_reducible show wpAny _ _ (call (Value.ref 224) _) _ _ _); refine Stop.out ?_) | ((with_reducible show wpAny _ _ (call (Value.ref 229) _) _ _ _); refine Stop.out ?_) | ((with_reducible show wpAny _ _ (call (Value.ref 236) _) _ _ _); refine Stop.out ?_) | ((with_reducible show wpAny _ _ (call (Value.ref 77) _) _ _ _); refine Stop.out ?_) | ((with_reducible show wpAny _ _ (call (Value.ref 65) _) _ _ _); refine Stop.out ?_) | ((with_reducible show wpAny _ _ (call (Value.ref 241) _) _ _ _); refine Stop.out ?_) | ((with_reducible show wpAny _ _ (call (Value.ref 246) _) _ _ _); refine Stop.out ?_) | ((with_reducible show wpAny _ _ (call (Value.ref 253) _) _ _ _); refine Stop.out ?_) | ((with_reducible show wpAny _ _ (call (Value.ref 105) _) _ _ _); refine Stop.out ?_))
  k_with "my mine ct" => (((rename Ct _ _ _ _ _ _ _ _ _ _ _ => hCt); k_dflt (refine' use_ct hCt ?hh ?hd ?hu ?hA ?B ?F ?K ?T ?hcs ?hX ?_; (case hh => exact rfl); (case hA => exact rfl); (case hd => first | exact Nat.le_of_ble_eq_true rfl | (simp only [depth_in1, depth_deeper]; omega)); (case hu => first | exact Nat.le_of_ble_eq_true rfl | (simp only [units_in1, units_deeper]; omega)); (case B => k_asm); (case F => k_asm); (case K => k_asm); (case T => k_asm); (case hcs => first | exact rfl | assumption); (case hX => first | exact News.inX (by k_asm) (by k_mem) | assumption | (intro x hx; cases hx)))))
  k_with "my storeName" => ((k_here; k_dflt (first | (refine' stK ?F ?N ?_ ?a ?b; (case F => k_asm); (case N => k_asm); (case a => rfl); (case b => rfl); k_whole; intro h' F' N' kS'; (try k_sweep)) | (refine' stC ?F ?N ?c ?U ?d ?_ ?a ?b; (case a => rfl); (case b => rfl); (case F => k_asm); (case N => k_asm); (case c => rfl); (case U => k_updF); (case d => k_asm); k_whole; intro h' o' F' N' d' kS'; (try dsimp only at N'); (try k_sweep)))))
  k_with "my compareOp Is ref ref" => ((k_here; (with_reducible show wpAny _ _ (compareOp CmpOp.Is (Value.ref _) (Value.ref _)) _ _ _); k_dflt (refine' kto_is ?a ?b ?n ?c ?_; (case a => first | kto_obj | (refine' gr_get ?F ?e; (case F => k_asm); (case e => with_reducible assumption))); (case b => first | kto_obj | (refine' gr_get ?F ?e; (case F => k_asm); (case e => with_reducible assumption))); (case n => first | assumption | exact Ne.symm (by assumption) | kto_ne); (case c => kto_not); k_whole)))
  k_with "my compareOp IsNot ref ref" => ((k_here; (with_reducible show wpAny _ _ (compareOp CmpOp.IsNot (Value.ref _) (Value.ref _)) _ _ _); k_dflt (refine' kto_isnot ?a ?b ?n ?c ?_; (case a => first | kto_obj | (refine' gr_get ?F ?e; (case F => k_asm); (case e => with_reducible assumption))); (case b => first | kto_obj | (refine' gr_get ?F ?e; (case F => k_asm); (case e => with_reducible assumption))); (case n => first | assumption | exact Ne.symm (by assumption) | kto_ne); (case c => kto_not); k_whole)))
  k_with "my compareOp Is int ref" => ((k_here; refine wpAny_is_other (by rfl) (by intro x; cases x) ?_))
  k_with "my compareOp IsNot int ref" => ((k_here; refine wpAny_isNot_other (by rfl) (by intro x; cases x) ?_))
  k_with "my compareOp Is ref int" => ((k_here; refine wpAny_is_other (by rfl) (by intro x; cases x) ?_))
  k_with "my compareOp IsNot ref int" => ((k_here; refine wpAny_isNot_other (by rfl) (by intro x; cases x) ?_))
  k_with "my newTuple" => (((rename RawTup => rt9); refine Stop.out ?_))
  k_with "my execs cons" => (((with_reducible show wpAny _ _ _ _ _ _); k_fold; refine wpAny_execs_cons ?_))
  k_with "my chain47" => (first | (with_reducible assumption) | ((with_reducible refine Nat.lt_trans (by assumption) ?_); walk_at "chain47"))
  k_with "my lt47" => (first | (with_reducible assumption) | (with_reducible exact Nat.lt_add_one _) | (with_reducible exact Nat.lt_trans (Nat.lt_add_one _) (Nat.lt_add_one _)) | ((fail_if_success (fail_if_success (with_reducible refine pkG (by assumption) ?_))); first | (with_reducible exact pk0 (by assumption)) | (with_reducible exact pk1 (by assumption)) | (with_reducible exact pk2 (by assumption)) | (with_reducible exact pk3 (by assumption)) | (with_reducible exact pk4 (by assumption)) | (with_reducible exact pk5 (by assumption)) | (with_reducible exact pk6 (by assumption)) | (with_reducible exact pk7 (by assumption)) | (with_reducible exact pk8 (by assumption)) | (with_reducible exact pk9 (by assumption)) | (with_reducible exact pk10 (by assumption)) | (with_reducible exact pk11 (by assumption)) | (with_reducible exact pk12 (by assumption)) | (with_reducible exact pk13 (by assumption)) | (with_reducible exact pk14 (by assumption)) | (with_reducible exact pk15 (by assumption)) | (with_reducible exact pk16 (by assumption)) | (with_reducible exact pk17 (by assumption)) | (with_reducible exact pk18 (by assumption)) | (with_reducible exact pk19 (by assumption))) | walk_at "chain47" | ((with_reducible refine Nat.lt_trans (Nat.lt_add_one _) ?_); walk_at "chain47") | ((with_reducible refine Nat.lt_trans (Nat.lt_trans (Nat.lt_add_one _) (Nat.lt_add_one _)) ?_); walk_at "chain47"))
  k_with "my in47a" => (first | (with_reducible exact pk0) | (with_reducible exact pk1) | (with_reducible exact pk2) | (with_reducible exact pk3) | (with_reducible exact pk4) | (with_reducible exact pk5) | (with_reducible exact pk6) | (with_reducible exact pk7))
  k_with "my in47b" => (first | (with_reducible exact pk8) | (with_reducible exact pk9) | (with_reducible exact pk10) | (with_reducible exact pk11) | (with_reducible exact pk12) | (with_reducible exact pk13) | (with_reducible exact pk14) | (with_reducible exact pk15))
  k_with "my in47c" => (first | (with_reducible exact pk16) | (with_reducible exact pk17) | (with_reducible exact pk18) | (with_reducible exact pk19) | (with_reducible exact pk20) | (with_reducible exact pk21) | (with_reducible exact pk22) | (with_reducible exact pk23))
  k_with "my in47d" => (first | (with_reducible exact pk24) | (with_reducible exact pk25) | (with_reducible exact pk26) | (with_reducible exact pk27) | (with_reducible exact pk28) | (with_reducible exact pk29) | (with_reducible exact pk30) | (with_reducible exact pk31))
  k_with "my in47e" => (first | (with_reducible exact pk32) | (with_reducible exact pk33) | (with_reducible exact pk34) | (with_reducible exact pk35) | (with_reducible exact pk36) | (with_reducible exact pk37) | (with_reducible exact pk38) | (with_reducible exact pk39))
  k_with "my pk47" => (((fail_if_success (fail_if_success (with_reducible refine pkG (by assumption) ?_))); first | ((fail_if_success (fail_if_success ((with_reducible refine pkI (by assumption) ?_); walk_at "in47a"))); first | (with_reducible exact pk0 (by assumption)) | (with_reducible exact pk1 (by assumption)) | (with_reducible exact pk2 (by assumption)) | (with_reducible exact pk3 (by assumption)) | (with_reducible exact pk4 (by assumption)) | (with_reducible exact pk5 (by assumption)) | (with_reducible exact pk6 (by assumption)) | (with_reducible exact pk7 (by assumption))) | ((fail_if_success (fail_if_success ((with_reducible refine pkI (by assumption) ?_); walk_at "in47b"))); first | (with_reducible exact pk8 (by assumption)) | (with_reducible exact pk9 (by assumption)) | (with_reducible exact pk10 (by assumption)) | (with_reducible exact pk11 (by assumption)) | (with_reducible exact pk12 (by assumption)) | (with_reducible exact pk13 (by assumption)) | (with_reducible exact pk14 (by assumption)) | (with_reducible exact pk15 (by assumption))) | ((fail_if_success (fail_if_success ((with_reducible refine pkI (by assumption) ?_); walk_at "in47c"))); first | (with_reducible exact pk16 (by assumption)) | (with_reducible exact pk17 (by assumption)) | (with_reducible exact pk18 (by assumption)) | (with_reducible exact pk19 (by assumption)) | (with_reducible exact pk20 (by assumption)) | (with_reducible exact pk21 (by assumption)) | (with_reducible exact pk22 (by assumption)) | (with_reducible exact pk23 (by assumption))) | ((fail_if_success (fail_if_success ((with_reducible refine pkI (by assumption) ?_); walk_at "in47d"))); first | (with_reducible exact pk24 (by assumption)) | (with_reducible exact pk25 (by assumption)) | (with_reducible exact pk26 (by assumption)) | (with_reducible exact pk27 (by assumption)) | (with_reducible exact pk28 (by assumption)) | (with_reducible exact pk29 (by assumption)) | (with_reducible exact pk30 (by assumption)) | (with_reducible exact pk31 (by assumption))) | ((fail_if_success (fail_if_success ((with_reducible refine pkI (by assumption) ?_); walk_at "in47e"))); first | (with_reducible exact pk32 (by assumption)) | (with_reducible exact pk33 (by assumption)) | (with_reducible exact pk34 (by assumption)) | (with_reducible exact pk35 (by assumption)) | (with_reducible exact pk36 (by assumption)) | (with_reducible exact pk37 (by assumption)) | (with_reducible exact pk38 (by assumption)) | (with_reducible exact pk39 (by assumption)))))
  k_with "my ne47" => (first | (with_reducible exact Nat.ne_of_lt (by assumption)) | (with_reducible exact Nat.ne_of_gt (by assumption)) | ((with_reducible refine Nat.ne_of_lt ?_); walk_at "pk47") | ((with_reducible refine Nat.ne_of_gt ?_); walk_at "pk47") | ((with_reducible refine Nat.ne_of_gt ?_); (with_reducible refine ltTail ?_ (by assumption)); walk_at "pk47") | ((with_reducible refine Nat.ne_of_lt ?_); (with_reducible refine ltTail ?_ (by assumption)); walk_at "pk47") | ((with_reducible refine Nat.ne_of_lt ?_); walk_at "lt47") | ((with_reducible refine Nat.ne_of_gt ?_); walk_at "lt47") | omega)
  k_with "my k_ne" => ((refine neN ?_; (try dsimp only); walk_at "ne47"))
  k_with "my neR47" => ((refine neN ?_; (try dsimp only); first | ((with_reducible refine Nat.ne_of_gt ?_); first | walk_at "pk47" | walk_at "chain47" | ((with_reducible refine ltTail ?_ (by assumption)); walk_at "pk47")) | k_ne))
  k_with "my k_all" => (first | exact List.forall_mem_nil _ | (refine allLt_ne ?_; (try dsimp only [AllLt]); with_reducible assumption) | (refine' List.forall_mem_cons.mpr ⟨?a, ?b⟩; (case a => k_ne); (case b => k_all)))
  k_with "my k_upd" => (first | (refine' Upd.head ?a; (case a => k_all)) | (refine' Upd.tail ?a ?b; (case a => walk_at "neR47"); (case b => k_upd)))
  k_with "my k_updF" => (first | (refine' UpdF.head ?a; (case a => k_all)) | (refine' UpdF.tail ?a ?b; (case a => walk_at "neR47"); (case b => k_updF)))
  k_with "my k_inst" => ((refine' InstAt.of_gr ?F ?h1 ?h2; (case F => k_asm); (case h1 => with_reducible assumption); (case h2 => with_reducible assumption)))
  k_with "my subscriptTail" => ((k_here; (with_reducible show wpAny _ _ (subscriptTail _ _ (Value.ref _) (Value.int _ _)) _ _ _); (with_unfolding_all refine' item_ground ?k0 ?k1 ?k2 ?k3 ?k4 ?_ ?k6; (case k1 => assumption); (case k0 => k_asm); (case k4 => assumption); (case k2 => omega); (case k3 => omega); (case k6 => with_unfolding_all rfl); k_whole)))
  exact True.intro
theorem Thing.sym {K : Frag} {h : Heap} {a d : Addr} {es : List DictEntry} {n : Nat} (X : K.In h) (e : K.lookup a = some (instObj 38 d)) (e' : K.lookup d = some (dictOf es n)) : Thing h (.ref a) := .inr ⟨a, d, es, n, rfl, X _ _ e', .inl (X _ _ e)⟩
set_option maxHeartbeats 4000000 in
theorem nil_ct {w : World} {mg mb : Str → Option Value} {mean : ExcName → Option Value} {s : Shared} {st dx vl : Addr} {its : List Value} {i : Nat} {ti : Tok} {x : Value} {nl : Nat} {tv : Tok}
    (e1 : s.heap.get? st = some (instObj 115 dx)) (e2 : s.heap.get? dx = some (storeD w vl tv)) (e3 : s.heap.get? vl = some (listOf (List.toArray its) nl)) (hi : its[i]? = some x) (hlt : i < 30) (hx : Thing s.heap x) :
    Ct w mg mb mean 590 1900 112 [.ref st, .int i ti] s [] (fun r _ => r = .bool (same x (.ref 44))) := by
  unfold Ct
  k_fill
  intro gd cn cs a ccd cl outer A₀ base h₀ L m Q E B F X T hcs hX hret
  have N : News h₀ L s.heap [] := News.nil
  walk_at "mine enter"
  intro g L' h₁ FG F₁ N₁ BG XG TG kG; (try dsimp only)
  have e1 := kG _ _ e1 (by simp)
  have e2 := kG _ _ e2 (by simp)
  have e3 : Heap.IsList g vl (List.toArray its) := ⟨_, kG _ _ e3 (by simp), rfl, _, rfl⟩
  refine' use_at (K := hd47.heap_39 w.params) (c := 2) ?a ?_
  case a => k_is
  intro eS
  have hnb := booked_in XG eS
  clear eS
  refine' use_at (K := hd47.heap_39 w.params) (c := 44) ?a ?_
  case a => k_is
  intro e44
  refine' use_at (K := hd47.heap_39 w.params) (c := 43) ?a ?_
  case a => k_is
  intro e43
  have h44 := Thing.sym XG e44 e43
  clear e44 e43
  have hxg := Thing.up hx (X := []) (fun b o e _ => kG b o e (by simp)) (by simp)
  have hj : its[((i : Nat) : Int).toNat]? = some x := by simpa using hi
  have hi0 : (0 : Int) ≤ (i : Nat) := by omega
  have hi1 : ((i : Nat) : Int) < 30 := by omega
  k_steps
  (rename Fr g _ _ _ => Fe)
  refine is_things (Thing.up hxg (X := []) (fun b o e _ => Fr.keep Fe b o e) (by simp)) (Thing.up h44 (X := []) (fun b o e _ => Fr.keep Fe b o e) (by simp)) (by unfold apart; split <;> first | trivial | contradiction) (booked_of Fe hnb) ?_
  intro bb hb1 hb2
  have hb : bb = same x (.ref 44) := by
    cases bb
    · exact (hb2 rfl (.inr rfl)).symm
    · exact (hb1 rfl).symm
  subst hb
  k_steps
  (rename Fr g _ _ _ => Fz)
  exact hret _ _ _ (fun b o e n => Fz.keep b o (kG b o e n)) rfl
end

section
theorem calm20 : True := by
  w_top off
  exact True.intro
theorem words20 : True := by
  k_with_none
  k_with "my k_room" => (first | exact Nat.le_of_ble_eq_true rfl | (simp only [depth_under_make, depth_under_kw, depth_in1, depth_deeper, depth_caller, recursionLimit] at *; omega))
  k_with "my eval ListComp" => (((fail_if_success (rename LibOk => x9)); refine Stop.out ?_))
  k_with "my exec Assign cons ListComp" => (((fail_if_success (rename LibOk => x9)); refine Stop.out ?_))
  k_with "my mine enter" => ((
  refine wpAny_call ?_
  first
  | (refine' code_defG ?k1 ?k2 ?k3 ?k4 ?k5 ?kA ?kF ?kK ?k6 ?k7 ?k8 ?k9 ?kB ?_ ?c2 ?c3 ?c4 ?c5; (case kA => exact rfl); (case kF => exact rfl); (case kK => first | exact rfl | assumption); (case k1 => k_asm); (case k2 => k_asm); (case k3 => k_asm); (case k4 => k_asm); (case k5 => k_asm); (case k6 => k_is); (case k7 => k_is); (case k8 => k_room); (case k9 => first | exact BindsTo.of_eq rfl | exact binds_K (by k_in) rfl (by k_is) rfl rfl rfl | fail "mine enter: binds"); (case c5 => decide); (case kB => exact locs rfl); (case c2 => exact rfl); (case c3 => exact rfl); (case c4 => exact rfl); k_whole)
  | (refine' code_defCG ?k1 ?k2 ?k3 ?k4 ?k5 ?kA ?kF ?kK ?k6 ?k7 ?k8 ?k9 ?kB ?kD ?_ ?c2 ?c3 ?c4; (case kA => exact rfl); (case kF => exact rfl); (case kK => first | exact rfl | assumption); (case k1 => k_asm); (case k2 => k_asm); (case k3 => k_asm); (case k4 => k_asm); (case k5 => k_asm); (case k6 => k_is); (case k7 => k_is); (case k8 => k_room); (case k9 => first | exact BindsTo.of_eq rfl | exact binds_K (by k_in) rfl (by k_is) rfl rfl rfl | fail "mine enter: binds"); (case kB => exact rfl); (case kD => decide +kernel); (case c2 => exact rfl); (case c3 => exact rfl); (case c4 => exact rfl); k_whole)))
  k_with "my mine dip" => ((k_here; k_dflt (refine' use_dip ?hh ?hd ?hu ?hA ?B ?F ?K ?T ?hcs ?N ?V ?h0 ?hx0 ?hx1 ?hl ?hk ?_; (case hh => exact rfl); (case hA => exact rfl); (case hd => first | exact Nat.le_of_ble_eq_true rfl | (simp only [depth_in1, depth_deeper]; omega)); (case hu => first | exact Nat.le_of_ble_eq_true rfl | (simp only [units_in1, units_deeper]; omega)); (case B => k_asm); (case F => k_asm); (case K => k_asm); (case T => k_asm); (case hcs => first | exact rfl | assumption); (case N => k_asm); (case V => k_updF); (case h0 => assumption); (case hx0 => assumption); (case hx1 => assumption); (case hl => (refine' IntsAt.up ?ha (Fr.keep ?hb); (case hb => k_asm); (case ha => k_asm))); (case hk => decide); k_whole); intro i' t' at' ta' x' tx' n' h' tk' b0 b1 b2 b3 b4 F' N'; (try dsimp only at N'); (try k_sweep)))
  k_with "my call ref" => (first | walk_at "mine dip" | ((with_reducible show wpAny _ _ (call (Value.ref 168) _) _ _ _); refine Stop.out ?_) | ((with_reducible show wpAny _ _ (call (Value.ref 188) _) _ _ _); refine Stop.out ?_) | ((with_reducible show wpAny _ _ (call (Value.ref 224) _) _ _ _); refine Stop.out ?_) | ((with_reducible show wpAny _ _ (call (Value.ref 229) _) _ _ _); refine Stop.out ?_) | ((with_reducible show wpAny _ _ (call (Value.ref 236) _) _ _ _); refine Stop.out ?_) | ((with_reducible show wpAny _ _ (call (Value.ref 77) _) _ _ _); refine Stop.out ?_) | ((with_reducible show wpAny _ _ (call (Value.ref 65) _) _ _ _); refine Stop.out ?_) | ((with_reducible show wpAny _ _ (call (Value.ref 241) _) _ _ _); refine Stop.out ?_) | ((with_reducible show wpAny _ _ (call (Value.ref 246) _) _ _ _); refine Stop.out ?_) | ((with_reducible show wpAny _ _ (call (Value.ref 253) _) _ _ _); refine Stop.out ?_) | ((with_reducible show wpAny _ _ (call (Value.ref 105) _) _ _ _); refine Stop.out ?_))
  k_with "my mine ct" => (((rename Ct _ _ _ _ _ _ _ _ _ _ _ => hCt); k_dflt (refine' use_ct hCt ?hh ?hd ?hu ?hA ?B ?F ?K ?T ?hcs ?hX ?_; (case hh => exact rfl); (case hA => exact rfl); (case hd => first | exact Nat.le_of_ble_eq_true rfl | (simp only [depth_in1, depth_deeper]; omega)); (case hu => first | exact Nat.le_of_ble_eq_true rfl | (simp only [units_in1, units_deeper]; omega)); (case B => k_asm); (case F => k_asm); (case K => k_asm); (case T => k_asm); (case hcs => first | exact rfl | assumption); (case hX => first | exact News.inX (by k_asm) (by k_mem) | assumption | (intro x hx; cases hx)))))
  k_with "my storeName" => ((k_here; k_dflt (first | (refine' stK ?F ?N ?_ ?a ?b; (case F => k_asm); (case N => k_asm); (case a => rfl); (case b => rfl); k_whole; intro h' F' N' kS'; (try k_sweep)) | (refine' stC ?F ?N ?c ?U ?d ?_ ?a ?b; (case a => rfl); (case b => rfl); (case F => k_asm); (case N => k_asm); (case c => rfl); (case U => k_updF); (case d => k_asm); k_whole; intro h' o' F' N' d' kS'; (try dsimp only at N'); (try k_sweep)))))
  k_with "my compareOp Is ref ref" => ((k_here; (with_reducible show wpAny _ _ (compareOp CmpOp.Is (Value.ref _) (Value.ref _)) _ _ _); k_dflt (refine' kto_is ?a ?b ?n ?c ?_; (case a => first | kto_obj | (refine' gr_get ?F ?e; (case F => k_asm); (case e => with_reducible assumption))); (case b => first | kto_obj | (refine' gr_get ?F ?e; (case F => k_asm); (case e => with_reducible assumption))); (case n => first | assumption | exact Ne.symm (by assumption) | kto_ne); (case c => kto_not); k_whole)))
  k_with "my compareOp IsNot ref ref" => ((k_here; (with_reducible show wpAny _ _ (compareOp CmpOp.IsNot (Value.ref _) (Value.ref _)) _ _ _); k_dflt (refine' kto_isnot ?a ?b ?n ?c ?_; (case a => first | kto_obj | (refine' gr_get ?F ?e; (case F => k_asm); (case e => with_reducible assumption))); (case b => first | kto_obj | (refine' gr_get ?F ?e; (case F => k_asm); (case e => with_reducible assumption))); (case n => first | assumption | exact Ne.symm (by assumption) | kto_ne); (case c => kto_not); k_whole)))
  k_with "my compareOp Is int ref" => ((k_here; refine wpAny_is_other (by rfl) (by intro x; cases x) ?_))
  k_with "my compareOp IsNot int ref" => ((k_here; refine wpAny_isNot_other (by rfl) (by intro x; cases x) ?_))
  k_with "my compareOp Is ref int" => ((k_here; refine wpAny_is_other (by rfl) (by intro x; cases x) ?_))
  k_with "my compareOp IsNot ref int" => ((k_here; refine wpAny_isNot_other (by rfl) (by intro x; cases x) ?_))
  k_with "my newTuple" => (((rename RawTup => rt9); refine Stop.out ?_))
  k_with "my execs cons" => (((with_reducible show wpAny _ _ _ _ _ _); k_fold; refine wpAny_execs_cons ?_))
  k_with "my chain47" => (first | (with_reducible assumption) | ((with_reducible refine Nat.lt_trans (by assumption) ?_); walk_at "chain47"))
  k_with "my lt47" => (first | (with_reducible assumption) | (with_reducible exact Nat.lt_add_one _) | (with_reducible exact Nat.lt_trans (Nat.lt_add_one _) (Nat.lt_add_one _)) | ((fail_if_success (fail_if_success (with_reducible refine pkG (by assumption) ?_))); first | (with_reducible exact pk0 (by assumption)) | (with_reducible exact pk1 (by assumption)) | (with_reducible exact pk2 (by assumption)) | (with_reducible exact pk3 (by assumption)) | (with_reducible exact pk4 (by assumption)) | (with_reducible exact pk5 (by assumption)) | (with_reducible exact pk6 (by assumption)) | (with_reducible exact pk7 (by assumption)) | (with_reducible exact pk8 (by assumption)) | (with_reducible exact pk9 (by assumption)) | (with_reducible exact pk10 (by assumption)) | (with_reducible exact pk11 (by assumption)) | (with_reducible exact pk12 (by assumption)) | (with_reducible exact pk13 (by assumption)) | (with_reducible exact pk14 (by assumption)) | (with_reducible exact pk15 (by assumption)) | (with_reducible exact pk16 (by assumption)) | (with_reducible exact pk17 (by assumption)) | (with_reducible exact pk18 (by assumption)) | (with_reducible exact pk19 (by assumption))) | walk_at "chain47" | ((with_reducible refine Nat.lt_trans (Nat.lt_add_one _) ?_); walk_at "chain47") | ((with_reducible refine Nat.lt_trans (Nat.lt_trans (Nat.lt_add_one _) (Nat.lt_add_one _)) ?_); walk_at "chain47"))
  k_with "my in47a" => (first | (with_reducible exact pk0) | (with_reducible exact pk1) | (with_reducible exact pk2) | (with_reducible exact pk3) | (with_reducible exact pk4) | (with_reducible exact pk5) | (with_reducible exact pk6) | (with_reducible exact pk7))
  k_with "my in47b" => (first | (with_reducible exact pk8) | (with_reducible exact pk9) | (with_reducible exact pk10) | (with_reducible exact pk11) | (with_reducible exact pk12) | (with_reducible exact pk13) | (with_reducible exact pk14) | (with_reducible exact pk15))
  k_with "my in47c" => (first | (with_reducible exact pk16) | (with_reducible exact pk17) | (with_reducible exact pk18) | (with_reducible exact pk19) | (with_reducible exact pk20) | (with_reducible exact pk21) | (with_reducible exact pk22) | (with_reducible exact pk23))
  k_with "my in47d" => (first | (with_reducible exact pk24) | (with_reducible exact pk25) | (with_reducible exact pk26) | (with_reducible exact pk27) | (with_reducible exact pk28) | (with_reducible exact pk29) | (with_reducible exact pk30) | (with_reducible exact pk31))
  k_with "my in47e" => (first | (with_reducible exact pk32) | (with_reducible exact pk33) | (with_reducible exact pk34) | (with_reducible exact pk35) | (with_reducible exact pk36) | (with_reducible exact pk37) | (with_reducible exact pk38) | (with_reducible exact pk39))
  k_with "my pk47" => (((fail_if_success (fail_if_success (with_reducible refine pkG (by assumption) ?_))); first | ((fail_if_success (fail_if_success ((with_reducible refine pkI (by assumption) ?_); walk_at "in47a"))); first | (with_reducible exact pk0 (by assumption)) | (with_reducible exact pk1 (by assumption)) | (with_reducible exact pk2 (by assumption)) | (with_reducible exact pk3 (by assumption)) | (with_reducible exact pk4 (by assumption)) | (with_reducible exact pk5 (by assumption)) | (with_reducible exact pk6 (by assumption)) | (with_reducible exact pk7 (by assumption))) | ((fail_if_success (fail_if_success ((with_reducible refine pkI (by assumption) ?_); walk_at "in47b"))); first | (with_reducible exact pk8 (by assumption)) | (with_reducible exact pk9 (by assumption)) | (with_reducible exact pk10 (by assumption)) | (with_reducible exact pk11 (by assumption)) | (with_reducible exact pk12 (by assumption)) | (with_reducible exact pk13 (by assumption)) | (with_reducible exact pk14 (by assumption)) | (with_reducible exact pk15 (by assumption))) | ((fail_if_success (fail_if_success ((with_reducible refine pkI (by assumption) ?_); walk_at "in47c"))); first | (with_reducible exact pk16 (by assumption)) | (with_reducible exact pk17 (by assumption)) | (with_reducible exact pk18 (by assumption)) | (with_reducible exact pk19 (by assumption)) | (with_reducible exact pk20 (by assumption)) | (with_reducible exact pk21 (by assumption)) | (with_reducible exact pk22 (by assumption)) | (with_reducible exact pk23 (by assumption))) | ((fail_if_success (fail_if_success ((with_reducible refine pkI (by assumption) ?_); walk_at "in47d"))); first | (with_reducible exact pk24 (by assumption)) | (with_reducible exact pk25 (by assumption)) | (with_reducible exact pk26 (by assumption)) | (with_reducible exact pk27 (by assumption)) | (with_reducible exact pk28 (by assumption)) | (with_reducible exact pk29 (by assumption)) | (with_reducible exact pk30 (by assumption)) | (with_reducible exact pk31 (by assumption))) | ((fail_if_success (fail_if_success ((with_reducible refine pkI (by assumption) ?_); walk_at "in47e"))); first | (with_reducible exact pk32 (by assumption)) | (with_reducible exact pk33 (by assumption)) | (with_reducible exact pk34 (by assumption)) | (with_reducible exact pk35 (by assumption)) | (with_reducible exact pk36 (by assumption)) | (with_reducible exact pk37 (by assumption)) | (with_reducible exact pk38 (by assumption)) | (with_reducible exact pk39 (by assumption)))))
  k_with "my ne47" => (first | (with_reducible exact Nat.ne_of_lt (by assumption)) | (with_reducible exact Nat.ne_of_gt (by assumption)) | ((with_reducible refine Nat.ne_of_lt ?_); walk_at "pk47") | ((with_reducible refine Nat.ne_of_gt ?_); walk_at "pk47") | ((with_reducible refine Nat.ne_of_gt ?_); (with_reducible refine ltTail ?_ (by assumption)); walk_at "pk47") | ((with_reducible refine Nat.ne_of_lt ?_); (with_reducible refine ltTail ?_ (by assumption)); walk_at "pk47") | ((with_reducible refine Nat.ne_of_lt ?_); walk_at "lt47") | ((with_reducible refine Nat.ne_of_gt ?_); walk_at "lt47") | omega)
  k_with "my k_ne" => ((refine neN ?_; (try dsimp only); walk_at "ne47"))
  k_with "my neR47" => ((refine neN ?_; (try dsimp only); first | ((with_reducible refine Nat.ne_of_gt ?_); first | walk_at "pk47" | walk_at "chain47" | ((with_reducible refine ltTail ?_ (by assumption)); walk_at "pk47")) | k_ne))
  k_with "my k_all" => (first | exact List.forall_mem_nil _ | (refine allLt_ne ?_; (try dsimp only [AllLt]); with_reducible assumption) | (refine' List.forall_mem_cons.mpr ⟨?a, ?b⟩; (case a => k_ne); (case b => k_all)))
  k_with "my k_upd" => (first | (refine' Upd.head ?a; (case a => k_all)) | (refine' Upd.tail ?a ?b; (case a => walk_at "neR47"); (case b => k_upd)))
  k_with "my k_updF" => (first | (refine' UpdF.head ?a; (case a => k_all)) | (refine' UpdF.tail ?a ?b; (case a => walk_at "neR47"); (case b => k_updF)))
  exact True.intro
theorem isint {w : World} {A : Around} {E : Value → Shared → Prop} {s : Shared} {v : Value} {Q : Value → Shared → Prop} (X : (hd47.heap_39 w.params).In s.heap) (hv : Thing s.heap v) (h : ∀ tk, s.toks ≤ tk → Q (.bool (isI v)) { s with toks := tk }) :
    wpAny (model PySem.Challenge.rw_ok0047_01.row.prog w) A (call (.builtin "isinstance") [v, .type "int"]) Q E s := by
  revert X
  k_fill
  intro X
  rcases hv with ⟨q, u, rfl, hu⟩ | ⟨va, vd, ves, vn, rfl, hvd, hva | hva⟩
  · exact PySem.IsiPair.int_int (h s.toks (Nat.le_refl _))
  · refine' kin_callT X ⟨hva, rfl, rfl, hvd⟩ ?k3 ?ty ?k4 ?k5 ?k6 ?k7 ?k8 ?k9 (h _ (Nat.le_succ _)); (case k3 => kin_no); (case ty => kernel_rfl); (case k4 => k_is); (case k5 => k_is); (case k6 => k_is); (case k7 => k_is); (case k8 => k_is); (case k9 => k_is)
  · refine' kin_callT X ⟨hva, rfl, rfl, hvd⟩ ?k3 ?ty ?k4 ?k5 ?k6 ?k7 ?k8 ?k9 (h _ (Nat.le_succ _)); (case k3 => kin_no); (case ty => kernel_rfl); (case k4 => k_is); (case k5 => k_is); (case k6 => k_is); (case k7 => k_is); (case k8 => k_is); (case k9 => k_is)
section
variable {prog : Program} {w : World} {A : Around} {E : Value → Shared → Prop} {env : Env} {s : Shared}
def TurnT (L : Addr) (fp : List Addr) (J : (Str → Option Value) → Heap → Nat → Prop) (Q : Flow → Shared → Prop) (s₃ : Shared) (f : Flow) (s₄ : Shared) : Prop :=
  match f with
  | .brk => Q .next s₄
  | .ret v => Q (.ret v) s₄
  | _ => ∃ h₄ tk₄ m₄, s₄ = { s₃ with heap := h₄, toks := tk₄ } ∧ h₄.Ns L m₄ ∧ (∀ b ∈ fp, ∀ o, s₃.heap.get? b = some o → h₄.get? b = some o) ∧ J m₄ h₄ tk₄

theorem forLoopT {R : Result → Shared → Prop} {x : Str} {px : Pos} {body : List Stmt} {I : Addr} {fp wr : List Addr} {n : Nat} {P : Nat → Value → Prop} {St : Nat → Heap → Prop} {m : Str → Option Value}
    (W : Walks prog w A I fp wr n P St) (J : Nat → (Str → Option Value) → Heap → Nat → Prop) (hlive : ∀ i h, St i h → ∀ b ∈ wr, ∃ o, h.get? b = some o)
    (hx : env.kindOf x = some .local) (hp : (env.scope.kind == .class || (env.scope.kind == .module && env.locals != env.globals)) = false)
    (hLf : env.locals ∉ fp) (hst : St 0 s.heap) (hn : s.heap.Ns env.locals m) (hJ0 : J 0 m s.heap s.toks)
    (hJk : ∀ i m h h' tk tk', tk ≤ tk' → J i m h tk → (∀ b o, b ≠ env.locals → b ∉ wr → h.get? b = some o → h'.get? b = some o) → J i m h' tk')
    (turn : ∀ i v m₁ s₃ E', i < n → P i v → J i m₁ s₃.heap s₃.toks → s₃.heap.Ns env.locals (fun y => if y = x then some v else m₁ y) → (∀ b ∈ wr, ∃ o, s₃.heap.get? b = some o) → (∃ h tk, s₃ = { s with heap := h, toks := tk }) →
      wpAny (model prog w) A (execs body env) (TurnT env.locals fp (J (i + 1)) (fun f s' => R (.ok f) s') s₃) E' s₃)
    (done : ∀ h' tk m', h'.Ns env.locals m' → J n m' h' tk → R (.ok .next) { s with heap := h', toks := tk }) :
    codeAny (model prog w) A (.forLoop (.Name x px) (.ref I) body [] env) R s := by
  have hLw : env.locals ∉ wr := fun q => hLf (W.sub _ q)
  refine codeAny_forLoop (fun k s' => ∃ h' tk m' i, s' = { s with heap := h', toks := tk } ∧ St i h' ∧ h'.Ns env.locals m' ∧ J i m' h' tk ∧ i ≤ n ∧ k = n + 1 - i) ?_ (n + 1) ⟨s.heap, s.toks, m, 0, rfl, hst, hn, hJ0, Nat.zero_le _, rfl⟩
  rintro k s' ⟨H, tk, m', i, rfl, hst', hn', hJ, hi, rfl⟩
  by_cases hlt : i < n
  · refine wpAny_with_toks (n := tk) (Nat.le_refl _) (W.item i _ _ _ hlt hst' fun v h₁ tk₁ hPv hst₁ hk₁ htk => ?_)
    replace htk : tk ≤ tk₁ := htk
    refine wpAny_assign_Name (wpAny_storeName_local hx (hn'.at' fun o e => hk₁ _ o hLw e) (fun h₂ hn₂ hs₂ => ?_) hp)
    have hst₂ : St (i + 1) h₂ := W.frame _ _ _ hst₁ fun b hb o e => hs₂.extBut b o (fun h => hLf (h ▸ hb)) e
    have hJ₂ : J i m' h₂ (tk₁ + 1) := hJk _ _ _ _ _ _ (Nat.le_succ_of_le htk) hJ fun b o hbL hbw e => hs₂.extBut b o hbL (hk₁ b o hbw e)
    refine wpAny_mono (turn i v m' { s with heap := h₂, toks := tk₁ + 1 } _ hlt hPv hJ₂ hn₂ (hlive _ _ hst₂) ⟨_, _, rfl⟩) (fun f s₄ hF => ?_) fun _ _ e => e
    have fin : (∃ h₄ tk₄ m₄, s₄ = { s with heap := h₄, toks := tk₄ } ∧ h₄.Ns env.locals m₄ ∧ (∀ b ∈ fp, ∀ o, h₂.get? b = some o → h₄.get? b = some o) ∧ J (i + 1) m₄ h₄ tk₄) → ∃ m, m < n + 1 - i ∧ ∃ h' tk m' i, s₄ = { s with heap := h', toks := tk } ∧ St i h' ∧ h'.Ns env.locals m' ∧ J i m' h' tk ∧ i ≤ n ∧ m = n + 1 - i := by
      rintro ⟨h₄, tk₄, m₄, rfl, hn₄, hk₄, hJ₄⟩
      exact ⟨n + 1 - (i + 1), by omega, h₄, tk₄, m₄, i + 1, rfl, W.frame _ _ _ hst₂ fun b hb o e => hk₄ b hb o e, hn₄, hJ₄, by omega, rfl⟩
    cases f with
    | next => exact fin hF
    | cont => exact fin hF
    | brk => exact hF
    | ret v => exact hF
  · have hin : i = n := by omega
    subst hin
    refine wpAny_with_toks (n := tk) (Nat.le_refl _) (W.done _ _ _ hst' fun h₁ tk₁ hk₁ htk => ?_)
    exact wpAny_pure (done h₁ tk₁ m' (hn'.at' fun o e => hk₁ _ o hLw e) (hJk _ _ _ _ _ _ htk hJ fun b o _ hbw e => hk₁ b o hbw e))

structure ForAskT (prog : Program) (w : World) (A : Around) (env : Env) (x : Str) (body : List Stmt) (Q : Flow → Shared → Prop) (I : Addr) (s : Shared) where
  fp : List Addr
  wr : List Addr
  n : Nat
  P : Nat → Value → Prop
  St : Nat → Heap → Prop
  m : Str → Option Value
  J : Nat → (Str → Option Value) → Heap → Nat → Prop
  W : Walks prog w A I fp wr n P St
  hlive : ∀ i h, St i h → ∀ b ∈ wr, ∃ o, h.get? b = some o
  hLf : env.locals ∉ fp
  hst : St 0 s.heap
  hn : s.heap.Ns env.locals m
  hJ0 : J 0 m s.heap s.toks
  hJk : ∀ i m h h' tk tk', tk ≤ tk' → J i m h tk → (∀ b o, b ≠ env.locals → b ∉ wr → h.get? b = some o → h'.get? b = some o) → J i m h' tk'
  turn : ∀ i v m₁ s₃ E', i < n → P i v → J i m₁ s₃.heap s₃.toks → s₃.heap.Ns env.locals (fun y => if y = x then some v else m₁ y) → (∀ b ∈ wr, ∃ o, s₃.heap.get? b = some o) → (∃ h tk, s₃ = { s with heap := h, toks := tk }) →
      wpAny (model prog w) A (execs body env) (TurnT env.locals fp (J (i + 1)) Q s₃) E' s₃
  done : ∀ h' tk m', h'.Ns env.locals m' → J n m' h' tk → Q .next { s with heap := h', toks := tk }

theorem ForT {x : Str} {px pos : Pos} {iter : Expr} {body : List Stmt} {Q : Flow → Shared → Prop} (hx : env.kindOf x = some .local)
    (hp : (env.scope.kind == .class || (env.scope.kind == .module && env.locals != env.globals)) = false) (hs : ∀ x, foldedSetIterable iter env x = pure x)
    (h : wpAny (model prog w) A (eval iter env) (fun xv s₁ => Stop (wpAny (model prog w) A (pyIter xv) (fun it s₂ => ∃ I, it = .ref I ∧ Nonempty (ForAskT prog w A env x body Q I s₂)) E s₁)) E s) :
    wpAny (model prog w) A (exec (.For (.Name x px) iter body [] pos) env) Q E s := by
  refine wpAny_For (wpAny_mono h (fun xv s₁ h₁ => wpAny_mono h₁ (fun it s₂ h₂ => ?_) fun _ _ e => e) fun _ _ e => e) hs
  obtain ⟨I, rfl, ⟨c⟩⟩ := h₂
  exact forLoopT (R := fun r s' => match r with | .ok f => Q f s' | .error e => cameBackBy (model prog w) A env E e s') c.W c.J c.hlive hx hp c.hLf c.hst c.hn c.hJ0 c.hJk c.turn c.done

theorem forRangeT {I : Addr} {x : Str} {body : List Stmt} {Q : Flow → Shared → Prop} {r : Addr} {i : Int} {t u v : Tok} {m : Str → Option Value}
    (J : Nat → (Str → Option Value) → Heap → Nat → Prop) (hId : I = s.heap.objs.size) (hh : A.handled = none) (hr : IsRange s.heap r 0 i 1 t u v) (h0 : 0 ≤ i) (h1 : i ≤ 1000)
    (hn : s.heap.Ns env.locals m) (hJ0 : ∀ h, (∀ b o, s.heap.get? b = some o → h.get? b = some o) → J 0 m h s.toks)
    (hJk : ∀ i m h h' tk tk', tk ≤ tk' → J i m h tk → (∀ b o, b ≠ env.locals → b ≠ I → h.get? b = some o → h'.get? b = some o) → J i m h' tk')
    (turn : ∀ j tj m₁ s₃ E', j < i.toNat → J j m₁ s₃.heap s₃.toks → s₃.heap.Ns env.locals (fun y => if y = x then some (.int j tj) else m₁ y) → (∃ o, s₃.heap.get? I = some o) → (∃ h tk, s₃ = { s with heap := h, toks := tk }) →
      wpAny (model prog w) A (execs body env) (TurnT env.locals [I] (J (j + 1)) Q s₃) E' s₃)
    (done : ∀ h' tk m', h'.Ns env.locals m' → J i.toNat m' h' tk → Q .next { s with heap := h', toks := tk }) :
    Stop (wpAny (model prog w) A (pyIter (.ref r)) (fun it s₂ => ∃ I, it = .ref I ∧ Nonempty (ForAskT prog w A env x body Q I s₂)) E s) := by
  subst hId
  obtain ⟨oL, eL⟩ := ns_alive hn
  have hn' := (up_range h0 h1).2
  refine wpAny_pyIter_range hr (up_range h0 h1).1 ⟨_, rfl, ⟨{ fp := _, wr := _, n := _, P := _, St := _, m := m, J := J, W := Walks.range hh s.heap.objs.size 0 1 i.toNat, hlive := ?_, hLf := ?_, hst := ?_, hn := hn.keeps fun b o e => Heap.get?_push_of_some _ e, hJ0 := hJ0 _ fun b o e => Heap.get?_push_of_some _ e, hJk := ?_, turn := ?_, done := ?_ }⟩⟩
  · intro i h e b hb
    rw [List.mem_singleton.mp hb]
    exact ⟨_, e⟩
  · intro q
    exact Nat.lt_irrefl _ ((List.mem_singleton.mp q) ▸ Heap.lt_size eL)
  · show IsRangeIter _ _ _ _ _
    rw [hn']
    have := Heap.get?_push_size s.heap (o := { cls := .type "range_iterator", data := .fields #[rawInt 0, rawInt i.toNat, rawInt 1] }) rfl
    simpa [IsRangeIter] using this
  · exact fun i m h h' tk tk' htk j k => hJk i m h h' tk tk' htk j fun b o hb hb' e => k b o hb (by simpa using hb') e
  · intro j v m₁ s₃ E' hi hP hJ hn' hw he
    obtain ⟨h, tk, rfl⟩ := he
    obtain ⟨tj, rfl⟩ := hP
    exact turn j tj m₁ _ E' hi hJ (by simpa using hn') (hw _ (.head _)) ⟨_, _, rfl⟩
  · intro h' tk m' hn' hJ
    exact done h' tk m' hn' hJ
end
theorem News.nm {h₀ h : Heap} {L a : Addr} {o : Obj} {rest : List (Addr × Obj)} (_ : News h₀ L h ((a, o) :: rest)) : ∃ b, b = a := ⟨a, rfl⟩
theorem News.nmo {h₀ h : Heap} {L a : Addr} {o : Obj} {rest : List (Addr × Obj)} (_ : News h₀ L h ((a, o) :: rest)) : ∃ b, b = o := ⟨o, rfl⟩
theorem News.tl {h₀ h : Heap} {L : Addr} {q : Addr × Obj} {rest : List (Addr × Obj)} (N : News h₀ L h (q :: rest)) : News h₀ L h rest := fun p hp => N p (.tail _ hp)
end

section
theorem calm21 : True := by
  w_top off
  exact True.intro
structure Apart (a b : Nat) : Prop where
  ne : a ≠ b
abbrev unitD (w : World) (ll cx tl lt : Addr) (k : Int) (t1 t2 t3 t4 t5 t6 : Tok) : Obj := dictOf [⟨PyData.keyHash w.params (Str.ofString "lines"), .str (Str.ofString "lines") t1, .ref ll⟩, ⟨PyData.keyHash w.params (Str.ofString "constants"), .str (Str.ofString "constants") t2, .ref cx⟩, ⟨PyData.keyHash w.params (Str.ofString "tasks"), .str (Str.ofString "tasks") t3, .ref tl⟩, ⟨PyData.keyHash w.params (Str.ofString "later"), .str (Str.ofString "later") t4, .ref lt⟩, ⟨PyData.keyHash w.params (Str.ofString "labels"), .str (Str.ofString "labels") t5, .int k t6⟩] 5
theorem words21 : True := by
  k_with "my k_ne" => ((refine neN ?_; (try dsimp only); first | (with_reducible exact Apart.ne (by assumption)) | (with_reducible exact (Apart.ne (by assumption)).symm) | walk_at "ne47"))
  k_with "my exec For" => (refine Stop.out ?_)
  k_with "my exec For Name Subscript cons nil" => (refine Stop.out ?_)
  k_with "my k_inst" => ((refine' InstAt.of_gr ?F ?h1 ?h2; (case F => k_asm); (case h1 => with_reducible assumption); (case h2 => with_reducible assumption)))
  exact True.intro
set_option maxHeartbeats 4000000 in
theorem label_ct {w : World} {mg mb : Str → Option Value} {mean : ExcName → Option Value} {s : Shared} {u du ll cx tl lt : Addr} {k : Int} {t1 t2 t3 t4 t5 t6 : Tok}
    (e1 : s.heap.get? u = some (instObj 157 du)) (e2 : s.heap.get? du = some (unitD w ll cx tl lt k t1 t2 t3 t4 t5 t6)) (hk0 : 0 ≤ k) (hk : k < 100) :
    Ct w mg mb mean 700 3000 140 [.ref u] s [u, du] (fun r h' => (∃ t, r = .int k t) ∧ h'.get? u = some (instObj 157 du) ∧ ∃ t5' t6', h'.get? du = some (unitD w ll cx tl lt (k + 1) t1 t2 t3 t4 t5' t6')) := by
  unfold Ct
  k_fill
  intro gd cn cs a ccd cl outer A₀ base h₀ L m Q E B F X T hcs hX hret
  have d1 : u ≠ du := by rintro rfl; rw [e2] at e1; have := congrArg (fun o => o.map Obj.cls) e1; simp at this
  have d2 : Apart u du := ⟨d1⟩
  have N : News h₀ L s.heap [(u, instObj 157 du), (du, unitD w ll cx tl lt k t1 t2 t3 t4 t5 t6)] := by
    intro q hq
    rcases List.mem_cons.mp hq with rfl | hq
    · exact ⟨e1, (hX u (.head _)).2, (hX u (.head _)).1⟩
    · rw [List.mem_singleton.mp hq]; exact ⟨e2, (hX du (.tail _ (.head _))).2, (hX du (.tail _ (.head _))).1⟩
  walk_at "mine enter"
  intro g L' h₁ FG F₁ N₁ BG XG TG kG; (try dsimp only)
  k_steps
  (rename Fr g _ _ _ => Fz); (rename News g _ _ _ => Nz)
  have ek : k + 1 - 1 = k := by omega
  simp only [ek]
  refine hret _ _ _ (fun b o e n => Fz.keep b o (kG b o e n)) ⟨⟨_, rfl⟩, Nz.get (by k_mem), _, _, Nz.get (o := unitD w ll cx tl lt (k + 1) t1 t2 t3 t4 _ _) (by k_mem)⟩
set_option maxHeartbeats 4000000 in
theorem do_ct {w : World} {mg mb : Str → Option Value} {mean : ExcName → Option Value} {s : Shared} {u du ll cx tl lt lst : Addr} {k : Int} {t1 t2 t3 t4 t5 t6 : Tok} {its vs : List Value} {nl nv : Nat}
    (e1 : s.heap.get? u = some (instObj 157 du)) (e2 : s.heap.get? du = some (unitD w ll cx tl lt k t1 t2 t3 t4 t5 t6)) (e3 : s.heap.get? tl = some (listOf (List.toArray its) nl)) (e4 : s.heap.get? lst = some (listOf (List.toArray vs) nv)) (hne : lst ≠ tl) (hlen : its.length ≤ 300) (hlv : vs.length ≤ 3) :
    Ct w mg mb mean 700 3000 154 [.ref u, .ref lst] s [tl] (fun r h' => r = .none ∧ ∃ n', h'.get? tl = some (listOf (List.toArray (its ++ vs.reverse)) n')) := by
  unfold Ct
  k_fill
  intro gd cn cs a ccd cl outer A₀ base h₀ L m Q E B F X T hcs hX hret
  have d1 : u ≠ tl := by rintro rfl; rw [e3] at e1; cases e1
  have d2 : du ≠ tl := by rintro rfl; rw [e3] at e2; have := congrArg (fun o => o.map Obj.cls) e2; simp at this
  have N : News h₀ L s.heap [(tl, listOf (List.toArray its) nl)] := fun q hq => by
    rw [List.mem_singleton.mp hq]; exact ⟨e3, (hX tl (.head _)).2, (hX tl (.head _)).1⟩
  walk_at "mine enter"
  intro g L' h₁ FG F₁ N₁ BG XG TG kG; (try dsimp only)
  have e1 := kG _ _ e1 (by simpa using d1)
  have e2 := kG _ _ e2 (by simpa using d2)
  have e4 := kG _ _ e4 (by simpa using hne)
  have hlg : Heap.IsList g lst (List.toArray vs) := ⟨_, e4, rfl, _, rfl⟩
  k_steps
  refine Stop.mk ?_
  refine ForJ (by with_unfolding_all rfl) (by with_unfolding_all rfl) (by intro _; with_unfolding_all rfl) ?_
  k_steps
  (rename Fr _ _ _ _ => Fe); (rename News _ _ _ _ => Ne)
  simp only [krv_pick] at Ne
  obtain ⟨mE, I, hmE, hId, hI1, hI2, hI3, FE⟩ := Fr.name Fe
  clear Fe
  obtain ⟨D, hD⟩ := News.nm Ne
  have hnew : h₁.get? D = none := none_of_size (by rw [hD]; exact Nat.le_succ _)
  have e3' := N₁.get (a := tl) (o := listOf (List.toArray its) nl) (by k_mem)
  simp only [← hD] at Ne ⊢
  have t0 := (Ne (tl, listOf (List.toArray its) nl) (by k_mem)).2
  have tI := hI3 _ _ (Ne.get (a := tl) (o := listOf (List.toArray its) nl) (by k_mem))
  have t1 := (Ne (D, listOf (List.toArray vs.reverse) 0) (by k_mem)).2
  have tDI := hI3 _ _ (Ne.get (a := D) (o := listOf (List.toArray vs.reverse) 0) (by k_mem))
  have eD := Ne.get (a := D) (o := listOf (List.toArray vs.reverse) 0) (by k_mem)
  have et := Ne.get (a := tl) (o := listOf (List.toArray its) nl) (by k_mem)
  have tD : tl ≠ D := by
    rintro rfl
    have := e3'
    rw [hnew] at this; cases this
  refine forList (its := vs.reverse) (fun i m h => (∀ b o, g.get? b = some o → h.get? b = some o) ∧ ∃ n u, m = (fun z => if z = Str.ofString "task" then u else mE z) ∧ h.get? tl = some (listOf (List.toArray (its ++ vs.reverse.take i)) n) ∧ h.get? D = some (listOf (List.toArray vs.reverse) 0)) hId (by rfl) ⟨_, eD, rfl, _, rfl⟩ t1.1 FE.ns ?_ ?_ ?_ ?_
  · intro h k
    refine ⟨fun b o e => k b o (FE.keep b o e), nl, mE (Str.ofString "task"), ?_, ?_, k _ _ eD⟩
    · funext z
      by_cases h1 : z = Str.ofString "task"
      · subst h1; simp
      · simp [h1]
    · simpa using k _ _ et
  · rintro i m h h' ⟨k, n, u, hm, hN, hN2⟩ kk
    exact ⟨fun b o e => Fr.ground FE hI1 kk e (k b o e), n, u, hm, kk _ _ t0.1 tI hN, kk _ _ t1.1 tDI hN2⟩
  · rintro i v m₁ s₃ E' hv ⟨kk, n, u, rfl, hN, hN2⟩ hn ⟨oI, eI⟩ _
    simp only [upd_same] at hn
    have F₃ : Fr g L' s₃.heap _ := ⟨hn, kk, FE.above⟩
    have N₃ : News g L' s₃.heap [(I, oI), (D, listOf (List.toArray vs.reverse) 0), (tl, listOf (List.toArray (its ++ vs.reverse.take i)) n)] := News.cons (fun q hq => by rw [List.mem_singleton.mp hq]; exact ⟨eI, hI2, hI1⟩) (News.cons (fun q hq => by rw [List.mem_singleton.mp hq]; exact ⟨hN2, t1⟩) (fun q hq => by rw [List.mem_singleton.mp hq]; exact ⟨hN, t0⟩))
    have ai : Apart tl I := ⟨tI⟩
    have ai2 : Apart tl D := ⟨tD⟩
    have hlt : (its ++ vs.reverse.take i).length ≤ 303 := by simp; omega
    clear FE Ne
    subst hmE
    k_steps
    (rename Fr g _ _ _ => Fz); (rename News g _ _ _ => Nz)
    refine ⟨_, _, _, rfl, Fz.ns, ?_, Fz.keep, n + 1, some v, ?_, ?_, Nz.get (by k_mem)⟩
    · intro c hc o e
      rcases List.mem_cons.mp hc with rfl | hc
      · rw [eI] at e; cases e; exact Nz.get (by k_mem)
      · rw [List.mem_singleton.mp hc] at e ⊢
        rw [hN2] at e; cases e; exact Nz.get (by k_mem)
    · funext z
      by_cases h1 : z = Str.ofString "task"
      · subst h1; simp
      · simp [h1]
    · have := Nz.get (a := tl) (o := listOf ((List.toArray (its ++ vs.reverse.take i)).push v) (n + 1)) (by k_mem)
      rw [this, List.take_add_one, hv]
      simp
  · rintro h' tk m' hn' ⟨kk, n, u, rfl, hN, hN2⟩
    have F₃ : Fr g L' h' _ := ⟨hn', kk, FE.above⟩
    clear FE Ne
    refine wpAny_execs_nil ?_
    refine leaveK_ F₃ News.nil fun _ _ => ?_
    rw [List.take_length] at hN
    exact hret _ _ _ (fun b o e n => kk b o (kG b o e n)) ⟨rfl, n, hN⟩
end

section
theorem calm22 : True := by
  w_top off
  exact True.intro
theorem words22 : True := by
  k_with_none
  k_with "my k_room" => (first | exact Nat.le_of_ble_eq_true rfl | (simp only [depth_under_make, depth_under_kw, depth_in1, depth_deeper, depth_caller, recursionLimit] at *; omega))
  k_with "my eval ListComp" => (((fail_if_success (rename LibOk => x9)); refine Stop.out ?_))
  k_with "my exec Assign cons ListComp" => (((fail_if_success (rename LibOk => x9)); refine Stop.out ?_))
  k_with "my mine enter" => ((
  refine wpAny_call ?_
  first
  | (refine' code_defG ?k1 ?k2 ?k3 ?k4 ?k5 ?kA ?kF ?kK ?k6 ?k7 ?k8 ?k9 ?kB ?_ ?c2 ?c3 ?c4 ?c5; (case kA => exact rfl); (case kF => exact rfl); (case kK => first | exact rfl | assumption); (case k1 => k_asm); (case k2 => k_asm); (case k3 => k_asm); (case k4 => k_asm); (case k5 => k_asm); (case k6 => k_is); (case k7 => k_is); (case k8 => k_room); (case k9 => first | exact BindsTo.of_eq rfl | exact binds_K (by k_in) rfl (by k_is) rfl rfl rfl | fail "mine enter: binds"); (case c5 => decide); (case kB => exact locs rfl); (case c2 => exact rfl); (case c3 => exact rfl); (case c4 => exact rfl); k_whole)
  | (refine' code_defCG ?k1 ?k2 ?k3 ?k4 ?k5 ?kA ?kF ?kK ?k6 ?k7 ?k8 ?k9 ?kB ?kD ?_ ?c2 ?c3 ?c4; (case kA => exact rfl); (case kF => exact rfl); (case kK => first | exact rfl | assumption); (case k1 => k_asm); (case k2 => k_asm); (case k3 => k_asm); (case k4 => k_asm); (case k5 => k_asm); (case k6 => k_is); (case k7 => k_is); (case k8 => k_room); (case k9 => first | exact BindsTo.of_eq rfl | exact binds_K (by k_in) rfl (by k_is) rfl rfl rfl | fail "mine enter: binds"); (case kB => exact rfl); (case kD => decide +kernel); (case c2 => exact rfl); (case c3 => exact rfl); (case c4 => exact rfl); k_whole)))
  k_with "my mine dip" => ((k_here; k_dflt (refine' use_dip ?hh ?hd ?hu ?hA ?B ?F ?K ?T ?hcs ?N ?V ?h0 ?hx0 ?hx1 ?hl ?hk ?_; (case hh => exact rfl); (case hA => exact rfl); (case hd => first | exact Nat.le_of_ble_eq_true rfl | (simp only [depth_in1, depth_deeper]; omega)); (case hu => first | exact Nat.le_of_ble_eq_true rfl | (simp only [units_in1, units_deeper]; omega)); (case B => k_asm); (case F => k_asm); (case K => k_asm); (case T => k_asm); (case hcs => first | exact rfl | assumption); (case N => k_asm); (case V => k_updF); (case h0 => assumption); (case hx0 => assumption); (case hx1 => assumption); (case hl => (refine' IntsAt.up ?ha (Fr.keep ?hb); (case hb => k_asm); (case ha => k_asm))); (case hk => decide); k_whole); intro i' t' at' ta' x' tx' n' h' tk' b0 b1 b2 b3 b4 F' N'; (try dsimp only at N'); (try k_sweep)))
  k_with "my call ref" => (first | walk_at "mine dip" | ((with_reducible show wpAny _ _ (call (Value.ref 168) _) _ _ _); refine Stop.out ?_) | ((with_reducible show wpAny _ _ (call (Value.ref 188) _) _ _ _); refine Stop.out ?_) | ((with_reducible show wpAny _ _ (call (Value.ref 224) _) _ _ _); refine Stop.out ?_) | ((with_reducible show wpAny _ _ (call (Value.ref 229) _) _ _ _); refine Stop.out ?_) | ((with_reducible show wpAny _ _ (call (Value.ref 236) _) _ _ _); refine Stop.out ?_) | ((with_reducible show wpAny _ _ (call (Value.ref 77) _) _ _ _); refine Stop.out ?_) | ((with_reducible show wpAny _ _ (call (Value.ref 65) _) _ _ _); refine Stop.out ?_) | ((with_reducible show wpAny _ _ (call (Value.ref 241) _) _ _ _); refine Stop.out ?_) | ((with_reducible show wpAny _ _ (call (Value.ref 246) _) _ _ _); refine Stop.out ?_) | ((with_reducible show wpAny _ _ (call (Value.ref 253) _) _ _ _); refine Stop.out ?_) | ((with_reducible show wpAny _ _ (call (Value.ref 105) _) _ _ _); refine Stop.out ?_))
  k_with "my mine ct" => (((rename Ct _ _ _ _ _ _ _ _ _ _ _ => hCt); k_dflt (refine' use_ct hCt ?hh ?hd ?hu ?hA ?B ?F ?K ?T ?hcs ?hX ?_; (case hh => exact rfl); (case hA => exact rfl); (case hd => first | exact Nat.le_of_ble_eq_true rfl | (simp only [depth_in1, depth_deeper]; omega)); (case hu => first | exact Nat.le_of_ble_eq_true rfl | (simp only [units_in1, units_deeper]; omega)); (case B => k_asm); (case F => k_asm); (case K => k_asm); (case T => k_asm); (case hcs => first | exact rfl | assumption); (case hX => first | exact News.inX (by k_asm) (by k_mem) | assumption | (intro x hx; cases hx)))))
  k_with "my storeName" => ((k_here; k_dflt (first | (refine' stK ?F ?N ?_ ?a ?b; (case F => k_asm); (case N => k_asm); (case a => rfl); (case b => rfl); k_whole; intro h' F' N' kS'; (try k_sweep)) | (refine' stC ?F ?N ?c ?U ?d ?_ ?a ?b; (case a => rfl); (case b => rfl); (case F => k_asm); (case N => k_asm); (case c => rfl); (case U => k_updF); (case d => k_asm); k_whole; intro h' o' F' N' d' kS'; (try dsimp only at N'); (try k_sweep)))))
  k_with "my compareOp Is ref ref" => ((k_here; (with_reducible show wpAny _ _ (compareOp CmpOp.Is (Value.ref _) (Value.ref _)) _ _ _); k_dflt (refine' kto_is ?a ?b ?n ?c ?_; (case a => first | kto_obj | (refine' gr_get ?F ?e; (case F => k_asm); (case e => with_reducible assumption))); (case b => first | kto_obj | (refine' gr_get ?F ?e; (case F => k_asm); (case e => with_reducible assumption))); (case n => first | assumption | exact Ne.symm (by assumption) | kto_ne); (case c => kto_not); k_whole)))
  k_with "my compareOp IsNot ref ref" => ((k_here; (with_reducible show wpAny _ _ (compareOp CmpOp.IsNot (Value.ref _) (Value.ref _)) _ _ _); k_dflt (refine' kto_isnot ?a ?b ?n ?c ?_; (case a => first | kto_obj | (refine' gr_get ?F ?e; (case F => k_asm); (case e => with_reducible assumption))); (case b => first | kto_obj | (refine' gr_get ?F ?e; (case F => k_asm); (case e => with_reducible assumption))); (case n => first | assumption | exact Ne.symm (by assumption) | kto_ne); (case c => kto_not); k_whole)))
  k_with "my compareOp Is int ref" => ((k_here; refine wpAny_is_other (by rfl) (by intro x; cases x) ?_))
  k_with "my compareOp IsNot int ref" => ((k_here; refine wpAny_isNot_other (by rfl) (by intro x; cases x) ?_))
  k_with "my compareOp Is ref int" => ((k_here; refine wpAny_is_other (by rfl) (by intro x; cases x) ?_))
  k_with "my compareOp IsNot ref int" => ((k_here; refine wpAny_isNot_other (by rfl) (by intro x; cases x) ?_))
  k_with "my newTuple" => (((rename RawTup => rt9); refine Stop.out ?_))
  k_with "my execs cons" => (((with_reducible show wpAny _ _ _ _ _ _); k_fold; refine wpAny_execs_cons ?_))
  k_with "my chain47" => (first | (with_reducible assumption) | ((with_reducible refine Nat.lt_trans (by assumption) ?_); walk_at "chain47"))
  k_with "my lt47" => (first | (with_reducible assumption) | (with_reducible exact Nat.lt_add_one _) | (with_reducible exact Nat.lt_trans (Nat.lt_add_one _) (Nat.lt_add_one _)) | ((fail_if_success (fail_if_success (with_reducible refine pkG (by assumption) ?_))); first | (with_reducible exact pk0 (by assumption)) | (with_reducible exact pk1 (by assumption)) | (with_reducible exact pk2 (by assumption)) | (with_reducible exact pk3 (by assumption)) | (with_reducible exact pk4 (by assumption)) | (with_reducible exact pk5 (by assumption)) | (with_reducible exact pk6 (by assumption)) | (with_reducible exact pk7 (by assumption)) | (with_reducible exact pk8 (by assumption)) | (with_reducible exact pk9 (by assumption)) | (with_reducible exact pk10 (by assumption)) | (with_reducible exact pk11 (by assumption)) | (with_reducible exact pk12 (by assumption)) | (with_reducible exact pk13 (by assumption)) | (with_reducible exact pk14 (by assumption)) | (with_reducible exact pk15 (by assumption)) | (with_reducible exact pk16 (by assumption)) | (with_reducible exact pk17 (by assumption)) | (with_reducible exact pk18 (by assumption)) | (with_reducible exact pk19 (by assumption))) | walk_at "chain47" | ((with_reducible refine Nat.lt_trans (Nat.lt_add_one _) ?_); walk_at "chain47") | ((with_reducible refine Nat.lt_trans (Nat.lt_trans (Nat.lt_add_one _) (Nat.lt_add_one _)) ?_); walk_at "chain47"))
  k_with "my in47a" => (first | (with_reducible exact pk0) | (with_reducible exact pk1) | (with_reducible exact pk2) | (with_reducible exact pk3) | (with_reducible exact pk4) | (with_reducible exact pk5) | (with_reducible exact pk6) | (with_reducible exact pk7))
  k_with "my in47b" => (first | (with_reducible exact pk8) | (with_reducible exact pk9) | (with_reducible exact pk10) | (with_reducible exact pk11) | (with_reducible exact pk12) | (with_reducible exact pk13) | (with_reducible exact pk14) | (with_reducible exact pk15))
  k_with "my in47c" => (first | (with_reducible exact pk16) | (with_reducible exact pk17) | (with_reducible exact pk18) | (with_reducible exact pk19) | (with_reducible exact pk20) | (with_reducible exact pk21) | (with_reducible exact pk22) | (with_reducible exact pk23))
  k_with "my in47d" => (first | (with_reducible exact pk24) | (with_reducible exact pk25) | (with_reducible exact pk26) | (with_reducible exact pk27) | (with_reducible exact pk28) | (with_reducible exact pk29) | (with_reducible exact pk30) | (with_reducible exact pk31))
  k_with "my in47e" => (first | (with_reducible exact pk32) | (with_reducible exact pk33) | (with_reducible exact pk34) | (with_reducible exact pk35) | (with_reducible exact pk36) | (with_reducible exact pk37) | (with_reducible exact pk38) | (with_reducible exact pk39))
  k_with "my pk47" => (((fail_if_success (fail_if_success (with_reducible refine pkG (by assumption) ?_))); first | ((fail_if_success (fail_if_success ((with_reducible refine pkI (by assumption) ?_); walk_at "in47a"))); first | (with_reducible exact pk0 (by assumption)) | (with_reducible exact pk1 (by assumption)) | (with_reducible exact pk2 (by assumption)) | (with_reducible exact pk3 (by assumption)) | (with_reducible exact pk4 (by assumption)) | (with_reducible exact pk5 (by assumption)) | (with_reducible exact pk6 (by assumption)) | (with_reducible exact pk7 (by assumption))) | ((fail_if_success (fail_if_success ((with_reducible refine pkI (by assumption) ?_); walk_at "in47b"))); first | (with_reducible exact pk8 (by assumption)) | (with_reducible exact pk9 (by assumption)) | (with_reducible exact pk10 (by assumption)) | (with_reducible exact pk11 (by assumption)) | (with_reducible exact pk12 (by assumption)) | (with_reducible exact pk13 (by assumption)) | (with_reducible exact pk14 (by assumption)) | (with_reducible exact pk15 (by assumption))) | ((fail_if_success (fail_if_success ((with_reducible refine pkI (by assumption) ?_); walk_at "in47c"))); first | (with_reducible exact pk16 (by assumption)) | (with_reducible exact pk17 (by assumption)) | (with_reducible exact pk18 (by assumption)) | (with_reducible exact pk19 (by assumption)) | (with_reducible exact pk20 (by assumption)) | (with_reducible exact pk21 (by assumption)) | (with_reducible exact pk22 (by assumption)) | (with_reducible exact pk23 (by assumption))) | ((fail_if_success (fail_if_success ((with_reducible refine pkI (by assumption) ?_); walk_at "in47d"))); first | (with_reducible exact pk24 (by assumption)) | (with_reducible exact pk25 (by assumption)) | (with_reducible exact pk26 (by assumption)) | (with_reducible exact pk27 (by assumption)) | (with_reducible exact pk28 (by assumption)) | (with_reducible exact pk29 (by assumption)) | (with_reducible exact pk30 (by assumption)) | (with_reducible exact pk31 (by assumption))) | ((fail_if_success (fail_if_success ((with_reducible refine pkI (by assumption) ?_); walk_at "in47e"))); first | (with_reducible exact pk32 (by assumption)) | (with_reducible exact pk33 (by assumption)) | (with_reducible exact pk34 (by assumption)) | (with_reducible exact pk35 (by assumption)) | (with_reducible exact pk36 (by assumption)) | (with_reducible exact pk37 (by assumption)) | (with_reducible exact pk38 (by assumption)) | (with_reducible exact pk39 (by assumption)))))
  k_with "my ne47" => (first | (with_reducible exact Nat.ne_of_lt (by assumption)) | (with_reducible exact Nat.ne_of_gt (by assumption)) | ((with_reducible refine Nat.ne_of_lt ?_); walk_at "pk47") | ((with_reducible refine Nat.ne_of_gt ?_); walk_at "pk47") | ((with_reducible refine Nat.ne_of_gt ?_); (with_reducible refine ltTail ?_ (by assumption)); walk_at "pk47") | ((with_reducible refine Nat.ne_of_lt ?_); (with_reducible refine ltTail ?_ (by assumption)); walk_at "pk47") | ((with_reducible refine Nat.ne_of_lt ?_); walk_at "lt47") | ((with_reducible refine Nat.ne_of_gt ?_); walk_at "lt47") | omega)
  k_with "my k_ne" => ((refine neN ?_; (try dsimp only); walk_at "ne47"))
  k_with "my neR47" => ((refine neN ?_; (try dsimp only); first | ((with_reducible refine Nat.ne_of_gt ?_); first | walk_at "pk47" | walk_at "chain47" | ((with_reducible refine ltTail ?_ (by assumption)); walk_at "pk47")) | k_ne))
  k_with "my k_all" => (first | exact List.forall_mem_nil _ | (refine allLt_ne ?_; (try dsimp only [AllLt]); with_reducible assumption) | (refine' List.forall_mem_cons.mpr ⟨?a, ?b⟩; (case a => k_ne); (case b => k_all)))
  k_with "my k_upd" => (first | (refine' Upd.head ?a; (case a => k_all)) | (refine' Upd.tail ?a ?b; (case a => walk_at "neR47"); (case b => k_upd)))
  k_with "my k_updF" => (first | (refine' UpdF.head ?a; (case a => k_all)) | (refine' UpdF.tail ?a ?b; (case a => walk_at "neR47"); (case b => k_updF)))
  k_with "my call type:set cons nil" => (refine Stop.out ?_)
  k_with "my call builtin:len" => (refine Stop.out ?_)
  k_with "my k_inst" => ((refine' InstAt.of_gr ?F ?h1 ?h2; (case F => k_asm); (case h1 => with_reducible assumption); (case h2 => with_reducible assumption)))
  exact True.intro
theorem len_set {prog : Program} {w : World} {A : Around} {E : Value → Shared → Prop} {s : Shared} {knd : KeyKind prog w Int} {a : Addr} {S : Int → Bool} {n : Nat} {Q : Value → Shared → Prop} (hS : s.heap.SetOf knd a S n) (hfit : (n : Int) < 2 ^ 63)
    (h : Q (.int n (s.toks + 1)) { s with toks := s.toks + 1 + 1 }) : wpAny (model prog w) A (call (.builtin "len") [.ref a]) Q E s := by
  obtain ⟨o, ho, hex, es, ep, t, hd, _, _, hn, hf⟩ := hS.objOf
  subst hn
  exact call_len_set ho hex hd hf hfit h
def SymIn (w : World) (h : Heap) (v : Value) (k : Int) : Prop := ∃ a nm, v = .ref a ∧ SymAt w h a k nm
set_option maxHeartbeats 4000000 in
theorem un_ct {w : World} {mg mb : Str → Option Value} {mean : ExcName → Option Value} {s : Shared} {q : Addr} {its : List Value} {ks : List Int} {n : Nat} (hq : s.heap.get? q = some (listOf (List.toArray its) n)) (hS : Paired (SymIn w s.heap) its ks) (hlen : its.length ≤ 3) :
    Ct w mg mb mean 590 1900 207 [.ref q] s [] (fun r h' => r = .bool (((firstMet (fun i => ks.getD i 0) ks.length).length : Int) == (ks.length : Int))) := by
  unfold Ct
  k_fill
  intro gd cn cs a ccd cl outer A₀ base h₀ L m Q E B F X T hcs hX hret
  have N : News h₀ L s.heap [] := News.nil
  walk_at "mine enter"
  intro g L' h₁ FG F₁ N₁ BG XG TG kG; (try dsimp only)
  have hqg := kG _ _ hq (by simp)
  have hlg : Heap.IsList g q (List.toArray its) := ⟨_, hqg, rfl, _, rfl⟩
  have hSg : Paired (SymIn w g) its ks := paired_mono (fun _ _ ⟨a, nm, e, x⟩ => ⟨a, nm, e, SymAt.up x (X := []) (fun b o e _ => kG b o e (by simp)) (by simp)⟩) hS
  have hlk := Paired.length hSg
  k_steps
  refine Stop.mk ?_
  refine ListCompJ [] (by with_unfolding_all rfl) (by decide) (by with_unfolding_all rfl) (by decide) (by with_unfolding_all rfl) (by intro _; with_unfolding_all rfl) ?_
  k_steps
  (rename Fr g _ _ _ => Fe); (rename News g _ _ _ => Ne)
  refine listE [] (fun N i ys h => IntsAre ys (ks.take i)) (fun _ => False) (by rfl) (hlg.at fun o e => Fe.keep _ _ e) (by simp) (by unfold sizeLine; omega) (by simp) (by simp) ?_ ?_ ?_ ?_
  · intro N h k; exact .nil
  · intro N N' i ys h h' a b c; exact a
  · intro C N j v ys s₃ m₃ hv hJ hn hm hC hK hN hNX E'
    refine wpAny_tests_nil ?_
    rw [if_pos rfl]
    have F₃ := Fr.kept Fe hK (by simp)
    have N₃ : News g L' s₃.heap [] := News.nil
    obtain ⟨k, hk, a, nm, rfl, d, t1, t2, t3, t4, f1, f2⟩ := Paired.get hSg hv
    clear Fe Ne
    k_steps
    · exact Kept.refl
    show IntsAre _ (List.take (j + 1) ks)
    rw [List.take_add_one, hk]
    exact IntsAre.app hJ (.cons _ _ .nil)
  · rintro D h' tk ys hD ⟨nD, eD⟩ hlen' hJ hK
    have F₄ := Fr.kept Fe hK (by simp)
    have nD' := Fr.new Fe hD
    rw [hlk, List.take_length] at hJ
    have hlys := IntsAre.length hJ
    clear Fe Ne
    dsimp only
    k_steps
    refine Stop.mk ?_
    (rename Fr g _ _ _ => Fe)
    refine PySem.call_set_list (items := List.toArray ys) (ns := ks) (by rfl) ⟨_, eD, rfl, _, rfl⟩ (by simpa using hJ) (by rw [List.size_toArray]; unfold scanBound; omega) ?_
    intro h5 tk5 hS5 k5
    have F5 := Fr.kept Fe (h' := h5) (X := []) (fun b o e _ => k5 b o (Heap.lt_size e) e) (by simp)
    clear Fe
    k_steps
    refine Stop.mk ?_
    refine len_set hS5 ?_ ?_
    · have := firstMet_length_le (fun i => ks.getD i 0) (List.toArray ys).size
      have e9 : (List.toArray ys).size = ys.length := List.size_toArray
      omega
    k_steps
    refine Stop.mk ?_
    (rename Fr g _ _ _ => Fe)
    refine len_ground Fe hlg (by omega) ?_
    k_steps
    (rename Fr g _ _ _ => Fz)
    refine leaveK_ Fz News.nil fun _ _ => ?_
    have e9 : (List.toArray ys).size = ks.length := by rw [List.size_toArray]; exact hlys
    rw [e9, hlk]
    exact hret _ _ _ (fun b o e n => Fz.keep b o (kG b o e (by simp))) rfl
end

section
theorem calm23 : True := by
  w_top off
  exact True.intro
section
variable {prog : Program} {w : World} {A : Around} {E : Value → Shared → Prop} {env : Env} {s : Shared}
theorem words23 : True := by
  k_with_none
  k_with "my k_room" => (first | exact Nat.le_of_ble_eq_true rfl | (simp only [depth_under_make, depth_under_kw, depth_in1, depth_deeper, depth_caller, recursionLimit] at *; omega))
  k_with "my eval ListComp" => (((fail_if_success (rename LibOk => x9)); refine Stop.out ?_))
  k_with "my exec Assign cons ListComp" => (((fail_if_success (rename LibOk => x9)); refine Stop.out ?_))
  k_with "my mine enter" => ((
  refine wpAny_call ?_
  first
  | (refine' code_defG ?k1 ?k2 ?k3 ?k4 ?k5 ?kA ?kF ?kK ?k6 ?k7 ?k8 ?k9 ?kB ?_ ?c2 ?c3 ?c4 ?c5; (case kA => exact rfl); (case kF => exact rfl); (case kK => first | exact rfl | assumption); (case k1 => k_asm); (case k2 => k_asm); (case k3 => k_asm); (case k4 => k_asm); (case k5 => k_asm); (case k6 => k_is); (case k7 => k_is); (case k8 => k_room); (case k9 => first | exact BindsTo.of_eq rfl | exact binds_K (by k_in) rfl (by k_is) rfl rfl rfl | fail "mine enter: binds"); (case c5 => decide); (case kB => exact locs rfl); (case c2 => exact rfl); (case c3 => exact rfl); (case c4 => exact rfl); k_whole)
  | (refine' code_defCG ?k1 ?k2 ?k3 ?k4 ?k5 ?kA ?kF ?kK ?k6 ?k7 ?k8 ?k9 ?kB ?kD ?_ ?c2 ?c3 ?c4; (case kA => exact rfl); (case kF => exact rfl); (case kK => first | exact rfl | assumption); (case k1 => k_asm); (case k2 => k_asm); (case k3 => k_asm); (case k4 => k_asm); (case k5 => k_asm); (case k6 => k_is); (case k7 => k_is); (case k8 => k_room); (case k9 => first | exact BindsTo.of_eq rfl | exact binds_K (by k_in) rfl (by k_is) rfl rfl rfl | fail "mine enter: binds"); (case kB => exact rfl); (case kD => decide +kernel); (case c2 => exact rfl); (case c3 => exact rfl); (case c4 => exact rfl); k_whole)))
  k_with "my mine dip" => ((k_here; k_dflt (refine' use_dip ?hh ?hd ?hu ?hA ?B ?F ?K ?T ?hcs ?N ?V ?h0 ?hx0 ?hx1 ?hl ?hk ?_; (case hh => exact rfl); (case hA => exact rfl); (case hd => first | exact Nat.le_of_ble_eq_true rfl | (simp only [depth_in1, depth_deeper]; omega)); (case hu => first | exact Nat.le_of_ble_eq_true rfl | (simp only [units_in1, units_deeper]; omega)); (case B => k_asm); (case F => k_asm); (case K => k_asm); (case T => k_asm); (case hcs => first | exact rfl | assumption); (case N => k_asm); (case V => k_updF); (case h0 => assumption); (case hx0 => assumption); (case hx1 => assumption); (case hl => (refine' IntsAt.up ?ha (Fr.keep ?hb); (case hb => k_asm); (case ha => k_asm))); (case hk => decide); k_whole); intro i' t' at' ta' x' tx' n' h' tk' b0 b1 b2 b3 b4 F' N'; (try dsimp only at N'); (try k_sweep)))
  k_with "my call ref" => (first | walk_at "mine dip" | ((with_reducible show wpAny _ _ (call (Value.ref 168) _) _ _ _); refine Stop.out ?_) | ((with_reducible show wpAny _ _ (call (Value.ref 188) _) _ _ _); refine Stop.out ?_) | ((with_reducible show wpAny _ _ (call (Value.ref 224) _) _ _ _); refine Stop.out ?_) | ((with_reducible show wpAny _ _ (call (Value.ref 229) _) _ _ _); refine Stop.out ?_) | ((with_reducible show wpAny _ _ (call (Value.ref 236) _) _ _ _); refine Stop.out ?_) | ((with_reducible show wpAny _ _ (call (Value.ref 77) _) _ _ _); refine Stop.out ?_) | ((with_reducible show wpAny _ _ (call (Value.ref 65) _) _ _ _); refine Stop.out ?_) | ((with_reducible show wpAny _ _ (call (Value.ref 241) _) _ _ _); refine Stop.out ?_) | ((with_reducible show wpAny _ _ (call (Value.ref 246) _) _ _ _); refine Stop.out ?_) | ((with_reducible show wpAny _ _ (call (Value.ref 253) _) _ _ _); refine Stop.out ?_) | ((with_reducible show wpAny _ _ (call (Value.ref 105) _) _ _ _); refine Stop.out ?_))
  k_with "my mine ct" => (((rename Ct _ _ _ _ _ _ _ _ _ _ _ => hCt); k_dflt (refine' use_ct hCt ?hh ?hd ?hu ?hA ?B ?F ?K ?T ?hcs ?hX ?_; (case hh => exact rfl); (case hA => exact rfl); (case hd => first | exact Nat.le_of_ble_eq_true rfl | (simp only [depth_in1, depth_deeper]; omega)); (case hu => first | exact Nat.le_of_ble_eq_true rfl | (simp only [units_in1, units_deeper]; omega)); (case B => k_asm); (case F => k_asm); (case K => k_asm); (case T => k_asm); (case hcs => first | exact rfl | assumption); (case hX => first | exact News.inX (by k_asm) (by k_mem) | assumption | (intro x hx; cases hx)))))
  k_with "my storeName" => ((k_here; k_dflt (first | (refine' stK ?F ?N ?_ ?a ?b; (case F => k_asm); (case N => k_asm); (case a => rfl); (case b => rfl); k_whole; intro h' F' N' kS'; (try k_sweep)) | (refine' stC ?F ?N ?c ?U ?d ?_ ?a ?b; (case a => rfl); (case b => rfl); (case F => k_asm); (case N => k_asm); (case c => rfl); (case U => k_updF); (case d => k_asm); k_whole; intro h' o' F' N' d' kS'; (try dsimp only at N'); (try k_sweep)))))
  k_with "my compareOp Is ref ref" => ((k_here; (with_reducible show wpAny _ _ (compareOp CmpOp.Is (Value.ref _) (Value.ref _)) _ _ _); k_dflt (refine' kto_is ?a ?b ?n ?c ?_; (case a => first | kto_obj | (refine' gr_get ?F ?e; (case F => k_asm); (case e => with_reducible assumption))); (case b => first | kto_obj | (refine' gr_get ?F ?e; (case F => k_asm); (case e => with_reducible assumption))); (case n => first | assumption | exact Ne.symm (by assumption) | kto_ne); (case c => kto_not); k_whole)))
  k_with "my compareOp IsNot ref ref" => ((k_here; (with_reducible show wpAny _ _ (compareOp CmpOp.IsNot (Value.ref _) (Value.ref _)) _ _ _); k_dflt (refine' kto_isnot ?a ?b ?n ?c ?_; (case a => first | kto_obj | (refine' gr_get ?F ?e; (case F => k_asm); (case e => with_reducible assumption))); (case b => first | kto_obj | (refine' gr_get ?F ?e; (case F => k_asm); (case e => with_reducible assumption))); (case n => first | assumption | exact Ne.symm (by assumption) | kto_ne); (case c => kto_not); k_whole)))
  k_with "my compareOp Is int ref" => ((k_here; refine wpAny_is_other (by rfl) (by intro x; cases x) ?_))
  k_with "my compareOp IsNot int ref" => ((k_here; refine wpAny_isNot_other (by rfl) (by intro x; cases x) ?_))
  k_with "my compareOp Is ref int" => ((k_here; refine wpAny_is_other (by rfl) (by intro x; cases x) ?_))
  k_with "my compareOp IsNot ref int" => ((k_here; refine wpAny_isNot_other (by rfl) (by intro x; cases x) ?_))
  k_with "my newTuple" => (((rename RawTup => rt9); refine Stop.out ?_))
  k_with "my execs cons" => (((with_reducible show wpAny _ _ _ _ _ _); k_fold; refine wpAny_execs_cons ?_))
  k_with "my chain47" => (first | (with_reducible assumption) | ((with_reducible refine Nat.lt_trans (by assumption) ?_); walk_at "chain47"))
  k_with "my lt47" => (first | (with_reducible assumption) | (with_reducible exact Nat.lt_add_one _) | (with_reducible exact Nat.lt_trans (Nat.lt_add_one _) (Nat.lt_add_one _)) | ((fail_if_success (fail_if_success (with_reducible refine pkG (by assumption) ?_))); first | (with_reducible exact pk0 (by assumption)) | (with_reducible exact pk1 (by assumption)) | (with_reducible exact pk2 (by assumption)) | (with_reducible exact pk3 (by assumption)) | (with_reducible exact pk4 (by assumption)) | (with_reducible exact pk5 (by assumption)) | (with_reducible exact pk6 (by assumption)) | (with_reducible exact pk7 (by assumption)) | (with_reducible exact pk8 (by assumption)) | (with_reducible exact pk9 (by assumption)) | (with_reducible exact pk10 (by assumption)) | (with_reducible exact pk11 (by assumption)) | (with_reducible exact pk12 (by assumption)) | (with_reducible exact pk13 (by assumption)) | (with_reducible exact pk14 (by assumption)) | (with_reducible exact pk15 (by assumption)) | (with_reducible exact pk16 (by assumption)) | (with_reducible exact pk17 (by assumption)) | (with_reducible exact pk18 (by assumption)) | (with_reducible exact pk19 (by assumption))) | walk_at "chain47" | ((with_reducible refine Nat.lt_trans (Nat.lt_add_one _) ?_); walk_at "chain47") | ((with_reducible refine Nat.lt_trans (Nat.lt_trans (Nat.lt_add_one _) (Nat.lt_add_one _)) ?_); walk_at "chain47"))
  k_with "my in47a" => (first | (with_reducible exact pk0) | (with_reducible exact pk1) | (with_reducible exact pk2) | (with_reducible exact pk3) | (with_reducible exact pk4) | (with_reducible exact pk5) | (with_reducible exact pk6) | (with_reducible exact pk7))
  k_with "my in47b" => (first | (with_reducible exact pk8) | (with_reducible exact pk9) | (with_reducible exact pk10) | (with_reducible exact pk11) | (with_reducible exact pk12) | (with_reducible exact pk13) | (with_reducible exact pk14) | (with_reducible exact pk15))
  k_with "my in47c" => (first | (with_reducible exact pk16) | (with_reducible exact pk17) | (with_reducible exact pk18) | (with_reducible exact pk19) | (with_reducible exact pk20) | (with_reducible exact pk21) | (with_reducible exact pk22) | (with_reducible exact pk23))
  k_with "my in47d" => (first | (with_reducible exact pk24) | (with_reducible exact pk25) | (with_reducible exact pk26) | (with_reducible exact pk27) | (with_reducible exact pk28) | (with_reducible exact pk29) | (with_reducible exact pk30) | (with_reducible exact pk31))
  k_with "my in47e" => (first | (with_reducible exact pk32) | (with_reducible exact pk33) | (with_reducible exact pk34) | (with_reducible exact pk35) | (with_reducible exact pk36) | (with_reducible exact pk37) | (with_reducible exact pk38) | (with_reducible exact pk39))
  k_with "my pk47" => (((fail_if_success (fail_if_success (with_reducible refine pkG (by assumption) ?_))); first | ((fail_if_success (fail_if_success ((with_reducible refine pkI (by assumption) ?_); walk_at "in47a"))); first | (with_reducible exact pk0 (by assumption)) | (with_reducible exact pk1 (by assumption)) | (with_reducible exact pk2 (by assumption)) | (with_reducible exact pk3 (by assumption)) | (with_reducible exact pk4 (by assumption)) | (with_reducible exact pk5 (by assumption)) | (with_reducible exact pk6 (by assumption)) | (with_reducible exact pk7 (by assumption))) | ((fail_if_success (fail_if_success ((with_reducible refine pkI (by assumption) ?_); walk_at "in47b"))); first | (with_reducible exact pk8 (by assumption)) | (with_reducible exact pk9 (by assumption)) | (with_reducible exact pk10 (by assumption)) | (with_reducible exact pk11 (by assumption)) | (with_reducible exact pk12 (by assumption)) | (with_reducible exact pk13 (by assumption)) | (with_reducible exact pk14 (by assumption)) | (with_reducible exact pk15 (by assumption))) | ((fail_if_success (fail_if_success ((with_reducible refine pkI (by assumption) ?_); walk_at "in47c"))); first | (with_reducible exact pk16 (by assumption)) | (with_reducible exact pk17 (by assumption)) | (with_reducible exact pk18 (by assumption)) | (with_reducible exact pk19 (by assumption)) | (with_reducible exact pk20 (by assumption)) | (with_reducible exact pk21 (by assumption)) | (with_reducible exact pk22 (by assumption)) | (with_reducible exact pk23 (by assumption))) | ((fail_if_success (fail_if_success ((with_reducible refine pkI (by assumption) ?_); walk_at "in47d"))); first | (with_reducible exact pk24 (by assumption)) | (with_reducible exact pk25 (by assumption)) | (with_reducible exact pk26 (by assumption)) | (with_reducible exact pk27 (by assumption)) | (with_reducible exact pk28 (by assumption)) | (with_reducible exact pk29 (by assumption)) | (with_reducible exact pk30 (by assumption)) | (with_reducible exact pk31 (by assumption))) | ((fail_if_success (fail_if_success ((with_reducible refine pkI (by assumption) ?_); walk_at "in47e"))); first | (with_reducible exact pk32 (by assumption)) | (with_reducible exact pk33 (by assumption)) | (with_reducible exact pk34 (by assumption)) | (with_reducible exact pk35 (by assumption)) | (with_reducible exact pk36 (by assumption)) | (with_reducible exact pk37 (by assumption)) | (with_reducible exact pk38 (by assumption)) | (with_reducible exact pk39 (by assumption)))))
  k_with "my ne47" => (first | (with_reducible exact Nat.ne_of_lt (by assumption)) | (with_reducible exact Nat.ne_of_gt (by assumption)) | ((with_reducible refine Nat.ne_of_lt ?_); walk_at "pk47") | ((with_reducible refine Nat.ne_of_gt ?_); walk_at "pk47") | ((with_reducible refine Nat.ne_of_gt ?_); (with_reducible refine ltTail ?_ (by assumption)); walk_at "pk47") | ((with_reducible refine Nat.ne_of_lt ?_); (with_reducible refine ltTail ?_ (by assumption)); walk_at "pk47") | ((with_reducible refine Nat.ne_of_lt ?_); walk_at "lt47") | ((with_reducible refine Nat.ne_of_gt ?_); walk_at "lt47") | omega)
  k_with "my k_ne" => ((refine neN ?_; (try dsimp only); walk_at "ne47"))
  k_with "my neR47" => ((refine neN ?_; (try dsimp only); first | ((with_reducible refine Nat.ne_of_gt ?_); first | walk_at "pk47" | walk_at "chain47" | ((with_reducible refine ltTail ?_ (by assumption)); walk_at "pk47")) | k_ne))
  k_with "my k_all" => (first | exact List.forall_mem_nil _ | (refine allLt_ne ?_; (try dsimp only [AllLt]); with_reducible assumption) | (refine' List.forall_mem_cons.mpr ⟨?a, ?b⟩; (case a => k_ne); (case b => k_all)))
  k_with "my k_upd" => (first | (refine' Upd.head ?a; (case a => k_all)) | (refine' Upd.tail ?a ?b; (case a => walk_at "neR47"); (case b => k_upd)))
  k_with "my k_updF" => (first | (refine' UpdF.head ?a; (case a => k_all)) | (refine' UpdF.tail ?a ?b; (case a => walk_at "neR47"); (case b => k_updF)))
  k_with "my subscriptTail" => ((k_here; (with_reducible show wpAny _ _ (subscriptTail _ _ (Value.ref _) (Value.int _ _)) _ _ _); (with_unfolding_all refine' item_ground ?k0 ?k1 ?k2 ?k3 ?k4 ?_ ?k6; (case k1 => assumption); (case k0 => k_asm); (case k4 => assumption); (case k2 => omega); (case k3 => omega); (case k6 => with_unfolding_all rfl); k_whole)))
  k_with "my call builtin:len" => ((k_here; (with_reducible show wpAny _ _ (call (Value.builtin "len") [Value.ref _]) _ _ _); k_dflt (refine' len_ground ?k0 ?k1 ?k2 ?_; (case k1 => assumption); (case k0 => k_asm); (case k2 => omega); k_whole)))
  exact True.intro
theorem rangeGE {scope : Scope} {cl : List (Str × Addr)} {x : Str} {ifs : List Expr} {elt : Expr} {Q : Value → Shared → Prop} {r : Addr} {a₀ b₀ c₀ : Int} {n : Nat} {t u v : Tok} (X : List Addr)
    (J : (Addr → Prop) → Nat → List Value → Heap → Prop) (Old : Addr → Prop) (hh : A.handled = none) (hr : IsRange s.heap r a₀ b₀ c₀ t u v) (hsm : Builtin.Range.small a₀ b₀ c₀ = true) (hn : Builtin.Range.rangeSize a₀ b₀ c₀ = (n : Int)) (hn1 : n ≤ 1000) (hX : ∀ b ∈ X, ∃ o, s.heap.get? b = some o) (hOld : ∀ a, Old a → ∃ o, s.heap.get? a = some o)
    (hJ0 : ∀ N h, (∀ b o, s.heap.get? b = some o → h.get? b = some o) → J N 0 [] h)
    (hJk : ∀ N N' i ys h h', J N i ys h → (∀ a, N a → N' a) → (∀ a o, N a ∨ Old a → h.get? a = some o → h'.get? a = some o) → J N' i ys h')
    (turn : ∀ C N j tj ys s₃ m₃, j < n → J N j ys s₃.heap → s₃.heap.Ns C m₃ → m₃ x = some (.int (a₀ + (j : Nat) * c₀) tj) → s.heap.get? C = none → Kept X s.heap s₃.heap → (∀ a, s₃.heap.get? a = none → a ∉ X → N a) → (∀ a, N a → a ∉ X) → TurnJ prog w A ifs elt (compEnvC scope cl C env) X (J N) j ys s₃)
    (fin : ∀ D h' tk ys, s.heap.get? D = none → h'.PlainList D (List.toArray ys) → ys.length ≤ n → J (fun a => s.heap.get? a = none ∧ a ≠ D) n ys h' → Kept X s.heap h' → Q (.ref D) { s with heap := h', toks := tk }) :
    Stop (wpAny (model prog w) A (pyIter (.ref r)) (fun it s₂ => ∃ I, it = .ref I ∧ Nonempty (CompAsk prog w A env scope cl x ifs elt X (EndE Q s₂) I s₂)) E s) := by
  refine wpAny_pyIter_range hr hsm ⟨_, rfl, ?_⟩
  refine (fun ⟨c, _⟩ => ⟨c⟩) (askG J Old rfl (Walks.range hh _ a₀ c₀ n) (by unfold sizeLine; omega) (fun _ _ e => ⟨_, e⟩) ?_ (by simp) hX hOld hJ0 hJk (fun C N j v ys s₃ m₃ hj hP hJ hn' hm hC k kn kx => ?_) (fun D C h' tk ys hD hC hDC hpl hlen hJ k => ?_))
  · show IsRangeIter _ _ _ _ _
    rw [hn]
    have := Heap.get?_push_size s.heap (o := { cls := .type "range_iterator", data := .fields #[rawInt a₀, rawInt n, rawInt c₀] }) rfl
    simpa [IsRangeIter] using this
  · obtain ⟨tj, rfl⟩ := hP
    exact turn C N j tj ys s₃ m₃ hj hJ hn' hm hC k kn kx
  · intro h'' kk
    refine fin D h'' tk ys hD (hpl.at fun o e => kk _ _ hDC e) hlen (hJk _ _ _ _ _ _ hJ (fun a na => ⟨na.1, na.2.2.2⟩) fun a o na e => kk a o ?_ e) fun b o e hb => kk b o (fun q => by rw [q, hC] at e; cases e) (k b o e hb)
    rcases na with na | na
    · exact na.2.2.1
    · obtain ⟨o', e'⟩ := hOld a na; rintro rfl; rw [hC] at e'; cases e'
end
abbrev tup2 (x y : Value) (n : Nat) : Obj := { cls := .type "tuple", data := .seq #[x, y] n }
def PairR (N : Addr → Prop) (h : Heap) (p : Value × Value) (v : Value) : Prop := ∃ a n, v = .ref a ∧ N a ∧ h.get? a = some (tup2 p.1 p.2 n)
theorem PairR.mono {N N' : Addr → Prop} {h h' : Heap} {p : Value × Value} {v : Value} (k : ∀ a o, N a → h.get? a = some o → N' a ∧ h'.get? a = some o) (x : PairR N h p v) : PairR N' h' p v :=
  let ⟨a, n, e, p, q⟩ := x; ⟨a, n, e, (k _ _ p q).1, (k _ _ p q).2⟩
def pairUp : List Value → List (Value × Value)
  | x :: y :: r => (x, y) :: pairUp r
  | _ => []
theorem pairUp_at : ∀ {n : Nat} {vs : List Value} {j : Nat}, vs.length = 2 * n → j < n → ∃ x y, vs[2 * j]? = some x ∧ vs[2 * j + 1]? = some y ∧ (pairUp vs)[j]? = some (x, y)
  | 0, _, _, _, h => by omega
  | n + 1, [], _, h, _ => by simp at h
  | n + 1, [_], _, h, _ => by simp at h; omega
  | n + 1, x :: y :: r, 0, h, _ => ⟨x, y, rfl, rfl, rfl⟩
  | n + 1, x :: y :: r, j + 1, h, hj => by
    obtain ⟨x', y', a, b, c⟩ := pairUp_at (n := n) (vs := r) (j := j) (by simp at h; omega) (by omega)
    refine ⟨x', y', ?_, ?_, ?_⟩
    · rw [show 2 * (j + 1) = 2 * j + 1 + 1 by omega]; simpa using a
    · rw [show 2 * (j + 1) + 1 = 2 * j + 1 + 1 + 1 by omega]; simpa using b
    · simpa [pairUp] using c
theorem pairUp_len : ∀ {n : Nat} {vs : List Value}, vs.length = 2 * n → (pairUp vs).length = n
  | 0, [], _ => rfl
  | 0, _ :: _, h => by simp at h
  | n + 1, [], h => by simp at h
  | n + 1, [_], h => by simp at h; omega
  | n + 1, x :: y :: r, h => by simp [pairUp]; exact pairUp_len (n := n) (by simp at h; omega)
set_option maxHeartbeats 4000000 in
theorem pairs_ct {w : World} {mg mb : Str → Option Value} {mean : ExcName → Option Value} {s : Shared} {q : Addr} {vs : List Value} {nq n : Nat} (hq : s.heap.get? q = some (listOf (List.toArray vs) nq)) (hv : vs.length = 2 * n) (hn3 : n ≤ 3) :
    Ct w mg mb mean 590 1900 212 [.ref q] s [] (fun r h' => ∃ D ys nD, r = .ref D ∧ s.heap.get? D = none ∧ h'.get? D = some (listOf (List.toArray ys) nD) ∧ Paired (PairR (fun a => s.heap.get? a = none) h') (pairUp vs) ys) := by
  unfold Ct
  k_fill
  intro gd cn cs a ccd cl outer A₀ base h₀ L m Q E B F X T hcs hX hret
  have N : News h₀ L s.heap [] := News.nil
  walk_at "mine enter"
  intro g L' h₁ tk₁ cells FG F₁ N₁ Y BG XG TG l1 kG; k_lt l1; k_cells Y; (try simp only [List.cons_append, List.nil_append] at N₁); (try dsimp only)
  have hqg := kG _ _ hq (by simp)
  have hlg : Heap.IsList g q (List.toArray vs) := ⟨_, hqg, rfl, _, rfl⟩
  k_steps
  refine Stop.mk ?_
  refine ListCompJ [] (by with_unfolding_all rfl) (by decide) (by with_unfolding_all rfl) (by decide) (by with_unfolding_all rfl) (by intro _; with_unfolding_all rfl) ?_
  k_steps
  (rename Fr g _ _ _ => Fe); (rename News g _ _ _ => Ne); (rename IsRange _ _ _ _ _ _ _ _ => hR)
  have e2 : (vs.length : Int) = 2 * (n : Int) := by omega
  rw [e2] at hR
  have t2 := two_range (n := n) (by omega)
  refine rangeGE [] (fun N i ys h => Paired (PairR N h) ((pairUp vs).take i) ys) (fun _ => False) (by rfl) hR t2.1 t2.2 (by omega) (by simp) (by simp) ?_ ?_ ?_ ?_
  · intro N h k; exact .nil
  · intro N N' i ys h h' a b c; exact paired_mono (fun _ _ => PairR.mono fun a o na e => ⟨b a na, c a o (.inl na) e⟩) a
  · intro C N j tj ys s₃ m₃ hj hJ hn hm hC hK hN hNX E'
    refine wpAny_tests_nil ?_
    rw [if_pos rfl]
    have F₃ := Fr.kept Fe hK (by simp)
    have N₃ := News.all Ne hK
    obtain ⟨x, y, ex, ey, ep⟩ := pairUp_at hv hj
    have ek : (0 : Int) + ((j : Nat) : Int) * 2 = ((2 * j : Nat) : Int) := by omega
    rw [ek] at hm
    have ex' : vs[((2 * j : Nat) : Int).toNat]? = some x := ex
    have ey' : vs[(((2 * j : Nat) : Int) + 1).toNat]? = some y := ey
    have rt : RawTup := RawTup.mk
    clear Fe Ne
    k_steps
    refine Stop.mk ?_
    refine newTuple_raw (Nat.le_of_ble_eq_true rfl) ?_
    intro c h4 fc kc ec
    refine ⟨_, _, rfl, kc, ?_⟩
    show Paired _ (List.take (j + 1) (pairUp vs)) _
    rw [List.take_add_one, ep]
    exact Paired.snoc (paired_mono (fun _ _ => PairR.mono fun a o na e => ⟨na, kc _ _ e (by simp)⟩) hJ) ⟨c, _, rfl, hN c fc (by simp), ec⟩
  · rintro D h' tk ys hD ⟨nD, eD⟩ hlen hJ hK
    have F₄ := Fr.kept Fe hK (by simp)
    have nD' := Fr.new Fe hD
    rw [List.take_of_length_le (by rw [pairUp_len hv]; exact Nat.le_refl _)] at hJ
    refine leaveK_ F₄ News.nil fun _ _ => ?_
    exact hret _ _ _ (fun b o e n => F₄.keep b o (kG b o e (by simp))) ⟨D, ys, nD, rfl, GSub.fresh kG (by simp) nD'.2, eD, paired_mono (fun _ _ => PairR.mono fun a o na e => ⟨GSub.fresh kG (by simp) (Fr.new Fe na.1).2, e⟩) hJ⟩
end

section
theorem calm24 : True := by
  w_top off
  exact True.intro
section
variable {prog : Program} {w : World} {A : Around} {E : Value → Shared → Prop} {R : Result → Shared → Prop} {s : Shared}
abbrev lc2 (elt : Expr) (x1 : Str) (px1 : Pos) (i1 : Expr) (x2 : Str) (px2 : Pos) (i2 : Expr) (scope : Scope) (pos : Pos) : Expr := .ListComp elt [⟨.Name x1 px1, i1, [], 0⟩, ⟨.Name x2 px2, i2, [], 0⟩] scope pos
theorem words24 : True := by
  k_with_none
  k_with "my k_room" => (first | exact Nat.le_of_ble_eq_true rfl | (simp only [depth_under_make, depth_under_kw, depth_in1, depth_deeper, depth_caller, recursionLimit] at *; omega))
  k_with "my eval ListComp" => (((fail_if_success (rename LibOk => x9)); refine Stop.out ?_))
  k_with "my exec Assign cons ListComp" => (((fail_if_success (rename LibOk => x9)); refine Stop.out ?_))
  k_with "my mine enter" => ((
  refine wpAny_call ?_
  first
  | (refine' code_defG ?k1 ?k2 ?k3 ?k4 ?k5 ?kA ?kF ?kK ?k6 ?k7 ?k8 ?k9 ?kB ?_ ?c2 ?c3 ?c4 ?c5; (case kA => exact rfl); (case kF => exact rfl); (case kK => first | exact rfl | assumption); (case k1 => k_asm); (case k2 => k_asm); (case k3 => k_asm); (case k4 => k_asm); (case k5 => k_asm); (case k6 => k_is); (case k7 => k_is); (case k8 => k_room); (case k9 => first | exact BindsTo.of_eq rfl | exact binds_K (by k_in) rfl (by k_is) rfl rfl rfl | fail "mine enter: binds"); (case c5 => decide); (case kB => exact locs rfl); (case c2 => exact rfl); (case c3 => exact rfl); (case c4 => exact rfl); k_whole)
  | (refine' code_defCG ?k1 ?k2 ?k3 ?k4 ?k5 ?kA ?kF ?kK ?k6 ?k7 ?k8 ?k9 ?kB ?kD ?_ ?c2 ?c3 ?c4; (case kA => exact rfl); (case kF => exact rfl); (case kK => first | exact rfl | assumption); (case k1 => k_asm); (case k2 => k_asm); (case k3 => k_asm); (case k4 => k_asm); (case k5 => k_asm); (case k6 => k_is); (case k7 => k_is); (case k8 => k_room); (case k9 => first | exact BindsTo.of_eq rfl | exact binds_K (by k_in) rfl (by k_is) rfl rfl rfl | fail "mine enter: binds"); (case kB => exact rfl); (case kD => decide +kernel); (case c2 => exact rfl); (case c3 => exact rfl); (case c4 => exact rfl); k_whole)))
  k_with "my mine dip" => ((k_here; k_dflt (refine' use_dip ?hh ?hd ?hu ?hA ?B ?F ?K ?T ?hcs ?N ?V ?h0 ?hx0 ?hx1 ?hl ?hk ?_; (case hh => exact rfl); (case hA => exact rfl); (case hd => first | exact Nat.le_of_ble_eq_true rfl | (simp only [depth_in1, depth_deeper]; omega)); (case hu => first | exact Nat.le_of_ble_eq_true rfl | (simp only [units_in1, units_deeper]; omega)); (case B => k_asm); (case F => k_asm); (case K => k_asm); (case T => k_asm); (case hcs => first | exact rfl | assumption); (case N => k_asm); (case V => k_updF); (case h0 => assumption); (case hx0 => assumption); (case hx1 => assumption); (case hl => (refine' IntsAt.up ?ha (Fr.keep ?hb); (case hb => k_asm); (case ha => k_asm))); (case hk => decide); k_whole); intro i' t' at' ta' x' tx' n' h' tk' b0 b1 b2 b3 b4 F' N'; (try dsimp only at N'); (try k_sweep)))
  k_with "my call ref" => (first | walk_at "mine dip" | ((with_reducible show wpAny _ _ (call (Value.ref 168) _) _ _ _); refine Stop.out ?_) | ((with_reducible show wpAny _ _ (call (Value.ref 188) _) _ _ _); refine Stop.out ?_) | ((with_reducible show wpAny _ _ (call (Value.ref 224) _) _ _ _); refine Stop.out ?_) | ((with_reducible show wpAny _ _ (call (Value.ref 229) _) _ _ _); refine Stop.out ?_) | ((with_reducible show wpAny _ _ (call (Value.ref 236) _) _ _ _); refine Stop.out ?_) | ((with_reducible show wpAny _ _ (call (Value.ref 77) _) _ _ _); refine Stop.out ?_) | ((with_reducible show wpAny _ _ (call (Value.ref 65) _) _ _ _); refine Stop.out ?_) | ((with_reducible show wpAny _ _ (call (Value.ref 241) _) _ _ _); refine Stop.out ?_) | ((with_reducible show wpAny _ _ (call (Value.ref 246) _) _ _ _); refine Stop.out ?_) | ((with_reducible show wpAny _ _ (call (Value.ref 253) _) _ _ _); refine Stop.out ?_) | ((with_reducible show wpAny _ _ (call (Value.ref 105) _) _ _ _); refine Stop.out ?_))
  k_with "my mine ct" => (((rename Ct _ _ _ _ _ _ _ _ _ _ _ => hCt); k_dflt (refine' use_ct hCt ?hh ?hd ?hu ?hA ?B ?F ?K ?T ?hcs ?hX ?_; (case hh => exact rfl); (case hA => exact rfl); (case hd => first | exact Nat.le_of_ble_eq_true rfl | (simp only [depth_in1, depth_deeper]; omega)); (case hu => first | exact Nat.le_of_ble_eq_true rfl | (simp only [units_in1, units_deeper]; omega)); (case B => k_asm); (case F => k_asm); (case K => k_asm); (case T => k_asm); (case hcs => first | exact rfl | assumption); (case hX => first | exact News.inX (by k_asm) (by k_mem) | assumption | (intro x hx; cases hx)))))
  k_with "my storeName" => ((k_here; k_dflt (first | (refine' stK ?F ?N ?_ ?a ?b; (case F => k_asm); (case N => k_asm); (case a => rfl); (case b => rfl); k_whole; intro h' F' N' kS'; (try k_sweep)) | (refine' stC ?F ?N ?c ?U ?d ?_ ?a ?b; (case a => rfl); (case b => rfl); (case F => k_asm); (case N => k_asm); (case c => rfl); (case U => k_updF); (case d => k_asm); k_whole; intro h' o' F' N' d' kS'; (try dsimp only at N'); (try k_sweep)))))
  k_with "my compareOp Is ref ref" => ((k_here; (with_reducible show wpAny _ _ (compareOp CmpOp.Is (Value.ref _) (Value.ref _)) _ _ _); k_dflt (refine' kto_is ?a ?b ?n ?c ?_; (case a => first | kto_obj | (refine' gr_get ?F ?e; (case F => k_asm); (case e => with_reducible assumption))); (case b => first | kto_obj | (refine' gr_get ?F ?e; (case F => k_asm); (case e => with_reducible assumption))); (case n => first | assumption | exact Ne.symm (by assumption) | kto_ne); (case c => kto_not); k_whole)))
  k_with "my compareOp IsNot ref ref" => ((k_here; (with_reducible show wpAny _ _ (compareOp CmpOp.IsNot (Value.ref _) (Value.ref _)) _ _ _); k_dflt (refine' kto_isnot ?a ?b ?n ?c ?_; (case a => first | kto_obj | (refine' gr_get ?F ?e; (case F => k_asm); (case e => with_reducible assumption))); (case b => first | kto_obj | (refine' gr_get ?F ?e; (case F => k_asm); (case e => with_reducible assumption))); (case n => first | assumption | exact Ne.symm (by assumption) | kto_ne); (case c => kto_not); k_whole)))
  k_with "my compareOp Is int ref" => ((k_here; refine wpAny_is_other (by rfl) (by intro x; cases x) ?_))
  k_with "my compareOp IsNot int ref" => ((k_here; refine wpAny_isNot_other (by rfl) (by intro x; cases x) ?_))
  k_with "my compareOp Is ref int" => ((k_here; refine wpAny_is_other (by rfl) (by intro x; cases x) ?_))
  k_with "my compareOp IsNot ref int" => ((k_here; refine wpAny_isNot_other (by rfl) (by intro x; cases x) ?_))
  k_with "my newTuple" => (((rename RawTup => rt9); refine Stop.out ?_))
  k_with "my execs cons" => (((with_reducible show wpAny _ _ _ _ _ _); k_fold; refine wpAny_execs_cons ?_))
  k_with "my chain47" => (first | (with_reducible assumption) | ((with_reducible refine Nat.lt_trans (by assumption) ?_); walk_at "chain47"))
  k_with "my lt47" => (first | (with_reducible assumption) | (with_reducible exact Nat.lt_add_one _) | (with_reducible exact Nat.lt_trans (Nat.lt_add_one _) (Nat.lt_add_one _)) | ((fail_if_success (fail_if_success (with_reducible refine pkG (by assumption) ?_))); first | (with_reducible exact pk0 (by assumption)) | (with_reducible exact pk1 (by assumption)) | (with_reducible exact pk2 (by assumption)) | (with_reducible exact pk3 (by assumption)) | (with_reducible exact pk4 (by assumption)) | (with_reducible exact pk5 (by assumption)) | (with_reducible exact pk6 (by assumption)) | (with_reducible exact pk7 (by assumption)) | (with_reducible exact pk8 (by assumption)) | (with_reducible exact pk9 (by assumption)) | (with_reducible exact pk10 (by assumption)) | (with_reducible exact pk11 (by assumption)) | (with_reducible exact pk12 (by assumption)) | (with_reducible exact pk13 (by assumption)) | (with_reducible exact pk14 (by assumption)) | (with_reducible exact pk15 (by assumption)) | (with_reducible exact pk16 (by assumption)) | (with_reducible exact pk17 (by assumption)) | (with_reducible exact pk18 (by assumption)) | (with_reducible exact pk19 (by assumption))) | walk_at "chain47" | ((with_reducible refine Nat.lt_trans (Nat.lt_add_one _) ?_); walk_at "chain47") | ((with_reducible refine Nat.lt_trans (Nat.lt_trans (Nat.lt_add_one _) (Nat.lt_add_one _)) ?_); walk_at "chain47"))
  k_with "my in47a" => (first | (with_reducible exact pk0) | (with_reducible exact pk1) | (with_reducible exact pk2) | (with_reducible exact pk3) | (with_reducible exact pk4) | (with_reducible exact pk5) | (with_reducible exact pk6) | (with_reducible exact pk7))
  k_with "my in47b" => (first | (with_reducible exact pk8) | (with_reducible exact pk9) | (with_reducible exact pk10) | (with_reducible exact pk11) | (with_reducible exact pk12) | (with_reducible exact pk13) | (with_reducible exact pk14) | (with_reducible exact pk15))
  k_with "my in47c" => (first | (with_reducible exact pk16) | (with_reducible exact pk17) | (with_reducible exact pk18) | (with_reducible exact pk19) | (with_reducible exact pk20) | (with_reducible exact pk21) | (with_reducible exact pk22) | (with_reducible exact pk23))
  k_with "my in47d" => (first | (with_reducible exact pk24) | (with_reducible exact pk25) | (with_reducible exact pk26) | (with_reducible exact pk27) | (with_reducible exact pk28) | (with_reducible exact pk29) | (with_reducible exact pk30) | (with_reducible exact pk31))
  k_with "my in47e" => (first | (with_reducible exact pk32) | (with_reducible exact pk33) | (with_reducible exact pk34) | (with_reducible exact pk35) | (with_reducible exact pk36) | (with_reducible exact pk37) | (with_reducible exact pk38) | (with_reducible exact pk39))
  k_with "my pk47" => (((fail_if_success (fail_if_success (with_reducible refine pkG (by assumption) ?_))); first | ((fail_if_success (fail_if_success ((with_reducible refine pkI (by assumption) ?_); walk_at "in47a"))); first | (with_reducible exact pk0 (by assumption)) | (with_reducible exact pk1 (by assumption)) | (with_reducible exact pk2 (by assumption)) | (with_reducible exact pk3 (by assumption)) | (with_reducible exact pk4 (by assumption)) | (with_reducible exact pk5 (by assumption)) | (with_reducible exact pk6 (by assumption)) | (with_reducible exact pk7 (by assumption))) | ((fail_if_success (fail_if_success ((with_reducible refine pkI (by assumption) ?_); walk_at "in47b"))); first | (with_reducible exact pk8 (by assumption)) | (with_reducible exact pk9 (by assumption)) | (with_reducible exact pk10 (by assumption)) | (with_reducible exact pk11 (by assumption)) | (with_reducible exact pk12 (by assumption)) | (with_reducible exact pk13 (by assumption)) | (with_reducible exact pk14 (by assumption)) | (with_reducible exact pk15 (by assumption))) | ((fail_if_success (fail_if_success ((with_reducible refine pkI (by assumption) ?_); walk_at "in47c"))); first | (with_reducible exact pk16 (by assumption)) | (with_reducible exact pk17 (by assumption)) | (with_reducible exact pk18 (by assumption)) | (with_reducible exact pk19 (by assumption)) | (with_reducible exact pk20 (by assumption)) | (with_reducible exact pk21 (by assumption)) | (with_reducible exact pk22 (by assumption)) | (with_reducible exact pk23 (by assumption))) | ((fail_if_success (fail_if_success ((with_reducible refine pkI (by assumption) ?_); walk_at "in47d"))); first | (with_reducible exact pk24 (by assumption)) | (with_reducible exact pk25 (by assumption)) | (with_reducible exact pk26 (by assumption)) | (with_reducible exact pk27 (by assumption)) | (with_reducible exact pk28 (by assumption)) | (with_reducible exact pk29 (by assumption)) | (with_reducible exact pk30 (by assumption)) | (with_reducible exact pk31 (by assumption))) | ((fail_if_success (fail_if_success ((with_reducible refine pkI (by assumption) ?_); walk_at "in47e"))); first | (with_reducible exact pk32 (by assumption)) | (with_reducible exact pk33 (by assumption)) | (with_reducible exact pk34 (by assumption)) | (with_reducible exact pk35 (by assumption)) | (with_reducible exact pk36 (by assumption)) | (with_reducible exact pk37 (by assumption)) | (with_reducible exact pk38 (by assumption)) | (with_reducible exact pk39 (by assumption)))))
  k_with "my ne47" => (first | (with_reducible exact Nat.ne_of_lt (by assumption)) | (with_reducible exact Nat.ne_of_gt (by assumption)) | ((with_reducible refine Nat.ne_of_lt ?_); walk_at "pk47") | ((with_reducible refine Nat.ne_of_gt ?_); walk_at "pk47") | ((with_reducible refine Nat.ne_of_gt ?_); (with_reducible refine ltTail ?_ (by assumption)); walk_at "pk47") | ((with_reducible refine Nat.ne_of_lt ?_); (with_reducible refine ltTail ?_ (by assumption)); walk_at "pk47") | ((with_reducible refine Nat.ne_of_lt ?_); walk_at "lt47") | ((with_reducible refine Nat.ne_of_gt ?_); walk_at "lt47") | omega)
  k_with "my k_ne" => ((refine neN ?_; (try dsimp only); walk_at "ne47"))
  k_with "my neR47" => ((refine neN ?_; (try dsimp only); first | ((with_reducible refine Nat.ne_of_gt ?_); first | walk_at "pk47" | walk_at "chain47" | ((with_reducible refine ltTail ?_ (by assumption)); walk_at "pk47")) | k_ne))
  k_with "my k_all" => (first | exact List.forall_mem_nil _ | (refine allLt_ne ?_; (try dsimp only [AllLt]); with_reducible assumption) | (refine' List.forall_mem_cons.mpr ⟨?a, ?b⟩; (case a => k_ne); (case b => k_all)))
  k_with "my k_upd" => (first | (refine' Upd.head ?a; (case a => k_all)) | (refine' Upd.tail ?a ?b; (case a => walk_at "neR47"); (case b => k_upd)))
  k_with "my k_updF" => (first | (refine' UpdF.head ?a; (case a => k_all)) | (refine' UpdF.tail ?a ?b; (case a => walk_at "neR47"); (case b => k_updF)))
  exact True.intro
theorem compTurn2_1 (elt : Expr) (x1 : Str) (px1 : Pos) (i1 : Expr) (x2 : Str) (px2 : Pos) (i2 : Expr) (scope : Scope) (pos : Pos) (it acc : Value) (env : Env) :
    compTurn (lc2 elt x1 px1 i1 x2 px2 i2 scope pos) 1 it acc env = (do
      standAt i2.pos
      match ← pyNext it with
      | none => pure (.done .next)
      | some v =>
        letOwnedTupleGo (.Name x2 px2) it v
        assign (.Name x2 px2) env v
        (do let _ ← call (.builtin "list.append") [acc, ← eval elt env])
        again (.compLoop (lc2 elt x1 px1 i1 x2 px2 i2 scope pos) 1 it acc env)) := by rfl
theorem compTurn2_0 (elt : Expr) (x1 : Str) (px1 : Pos) (i1 : Expr) (x2 : Str) (px2 : Pos) (i2 : Expr) (scope : Scope) (pos : Pos) (it acc : Value) (env : Env) :
    compTurn (lc2 elt x1 px1 i1 x2 px2 i2 scope pos) 0 it acc env = (do
      standAt i1.pos
      match ← pyNext it with
      | none => pure (.done .next)
      | some v =>
        letOwnedTupleGo (.Name x1 px1) it v
        assign (.Name x1 px1) env v
        let x ← eval i2 env
        standAt i2.pos
        let x ← foldedSetIterable i2 env x
        let _ ← runOwn (.compStart (lc2 elt x1 px1 i1 x2 px2 i2 scope pos) 1 (← holding [x] (pyIter x)) acc env) env
        again (.compLoop (lc2 elt x1 px1 i1 x2 px2 i2 scope pos) 0 it acc env)) := by rfl
theorem inner2 {x1 x2 : Str} {px1 px2 pe : Pos} {i1 i2 : Expr} {scope : Scope} {pos : Pos} {cenv : Env} {I D : Addr} {fp : List Addr} {items ys : List Value} {St : Nat → Heap → Prop} {m : Str → Option Value}
    (W : Walks prog w A I fp [I] items.length (fun i v => items[i]? = some v) St) (hk : cenv.scope.kind = .function) (hx : cenv.kindOf x2 = some .local) (hb : (x2 == ("__debug__" : Str)) = false)
    (hp : (cenv.scope.kind == .class || (cenv.scope.kind == .module && cenv.locals != cenv.globals)) = false)
    (hDC : D ≠ cenv.locals) (hDf : D ∉ fp) (hCf : cenv.locals ∉ fp) (hst : St 0 s.heap) (hacc : s.heap.PlainList D (List.toArray ys)) (hn : s.heap.Ns cenv.locals m) (hsz : (ys ++ items).length ≤ sizeLine)
    (hR : ∀ h' tk m', h'.Ns cenv.locals m' → h'.PlainList D (List.toArray (ys ++ items)) → (∀ b o, b ≠ cenv.locals → b ≠ I → b ≠ D → s.heap.get? b = some o → h'.get? b = some o) → R (.ok .next) { s with heap := h', toks := tk }) :
    codeAny (model prog w) A (.compLoop (lc2 (.Name x2 pe) x1 px1 i1 x2 px2 i2 scope pos) 1 (.ref I) (.ref D) cenv) R s := by
  have hII : I ∈ fp := W.sub _ (.head _)
  have hDI : D ≠ I := fun q => hDf (q ▸ hII)
  have hCI : cenv.locals ≠ I := fun q => hCf (q ▸ hII)
  refine codeAny_loop rfl (fun k s' => ∃ h' tk m' i, s' = { s with heap := h', toks := tk } ∧ St i h' ∧ h'.PlainList D (List.toArray (ys ++ items.take i)) ∧ h'.Ns cenv.locals m' ∧ i ≤ items.length ∧ k = items.length + 1 - i ∧ (∀ b o, b ≠ cenv.locals → b ≠ I → b ≠ D → s.heap.get? b = some o → h'.get? b = some o)) (fun k s' hI => ?_) (items.length + 1)
    ⟨s.heap, s.toks, m, 0, rfl, hst, by simpa using hacc, hn, Nat.zero_le _, rfl, fun _ _ _ _ _ e => e⟩
  obtain ⟨H, tk, m', i, rfl, hst', hacc', hn', hi, rfl, hk'⟩ := hI
  show wpAny _ A ((compTurn (lc2 (.Name x2 pe) x1 px1 i1 x2 px2 i2 scope pos) 1 (.ref I) (.ref D) cenv).onRaise (fun x => do noteFrame x cenv; theTreesLotGoes x)) _ _ _
  refine wpAny_noted ?_
  rw [compTurn2_1]
  refine wpAny_bind (wpAny_standAt (wpAny_bind ?_))
  by_cases hlt : i < items.length
  · refine W.item i _ _ _ hlt hst' fun v h₁ tk₁ hPv hst₁ hk₁ => ?_
    refine wpAny_bind (wpAny_of_eq (a := ()) (by rfl) ?_)
    refine wpAny_bind (wpAny_assign_Name (wpAny_storeName_local hx (hn'.at' fun o e => hk₁ _ o (by simpa using hCI) e) (fun h₂ hn₂ hs₂ => ?_) hp))
    have up₂ : ∀ b o, b ≠ cenv.locals → b ≠ I → H.get? b = some o → h₂.get? b = some o := fun b o hbC hbI e => hs₂.extBut b o hbC (hk₁ b o (by simpa using hbI) e)
    have hst₂ : St (i + 1) h₂ := W.frame _ _ _ hst₁ fun b hb o e => hs₂.extBut b o (fun h => hCf (h ▸ hb)) e
    have hacc₂ : h₂.PlainList D (List.toArray (ys ++ items.take i)) := hacc'.at fun o e => up₂ D o hDC hDI e
    refine wpAny_bind (wpAny_bind (wpAny_Name (wpAny_loadName_local hk hx hn₂ (if_pos rfl) ?_) hb))
    refine wpAny_bind (wpAny_list_append_plain (hsz := by simp at hsz ⊢; omega) hacc₂ fun h₅ hl₅ hs₅ => wpAny_pure (wpAny_pure ⟨rfl, ?_⟩))
    refine ⟨items.length + 1 - (i + 1), by omega, h₅, _, _, i + 1, rfl, ?_, ?_, hn₂.sameBut hs₅ (Ne.symm hDC), hlt, rfl, ?_⟩
    · exact W.frame _ _ _ hst₂ fun b hb o e => hs₅.extBut b o (fun h => hDf (h ▸ hb)) e
    · rw [List.take_add_one, hPv]; simpa using hl₅
    · exact fun b o hbC hbI hbD e => hs₅.extBut b o hbD (up₂ b o hbC hbI (hk' b o hbC hbI hbD e))
  · have hin : i = items.length := by omega
    subst hin
    rw [List.take_length] at hacc'
    refine W.done _ _ _ hst' fun h₁ tk₁ hk₁ => ?_
    exact wpAny_pure (hR h₁ tk₁ m' (hn'.at' fun o e => hk₁ _ o (by simpa using hCI) e) (hacc'.at fun o e => hk₁ _ o (by simpa using hDI) e) fun b o hbC hbI hbD e => hk₁ b o (by simpa using hbI) (hk' b o hbC hbI hbD e))
theorem start1 {elt : Expr} {x1 x2 : Str} {px1 px2 : Pos} {i1 i2 : Expr} {scope : Scope} {pos : Pos} {it acc : Value} {env : Env}
    (h0 : codeAny (model prog w) A (.compLoop (lc2 elt x1 px1 i1 x2 px2 i2 scope pos) 1 it acc env) R s)
    (h : wpAny (model prog w) A (pyIter it) (fun it' s' => codeAny (model prog w) A (.compLoop (lc2 elt x1 px1 i1 x2 px2 i2 scope pos) 1 it' acc env) R s') (notedBy (model prog w) A env fun x s' => R (.error x) s') s) :
    codeAny (model prog w) A (.compStart (lc2 elt x1 px1 i1 x2 px2 i2 scope pos) 1 it acc env) R s := by
  refine codeAny_of_tree ?_
  show wpAny _ _ ((compStart (lc2 elt x1 px1 i1 x2 px2 i2 scope pos) 1 it acc env).onRaise (fun x => do noteFrame x env; standAt theWindowsPlace)) _ _ s
  refine wpAny_notedAt ?_
  unfold compStart
  show wpAny _ _ (ask >>= _) _ _ s
  refine wpAny_bind (wpAny_askSetting (wpAny_ite ?_))
  split
  · first
      | exact wpAny_bind (wpAny_pure (wpAny_pure (And.intro rfl h0)))
      | exact wpAny_pure (And.intro rfl h0)
  · first
      | exact wpAny_bind (wpAny_rule (wpAny_bind (wpAny_standAt (wpAny_bind (wpAny_mono h (fun it' s' h' => wpAny_pure (And.intro rfl h')) fun _ _ x => x)))))
      | (refine wpAny_bind (wpAny_rule ?_); show wpAny _ _ (standAt i2.pos >>= _) _ _ s; exact wpAny_bind (wpAny_standAt (wpAny_bind (wpAny_mono h (fun it' s' h' => wpAny_pure (And.intro rfl h')) fun _ _ x => x))))
def flatP (ps : List (Value × Value)) : List Value := ps.flatMap fun p => [p.1, p.2]
theorem flatP_next {ps : List (Value × Value)} {i : Nat} {p : Value × Value} (h : ps[i]? = some p) : flatP (ps.take (i + 1)) = flatP (ps.take i) ++ [p.1, p.2] := by
  unfold flatP
  rw [List.take_add_one, h]
  simp
theorem flatP_len (ps : List (Value × Value)) : (flatP ps).length = 2 * ps.length := by
  induction ps with
  | nil => rfl
  | cons p r ih => simp only [flatP, List.flatMap_cons, List.length_append, List.length_cons, List.length_nil] at ih ⊢; omega
theorem outer2 {x1 x2 : Str} {px1 px2 pe pq : Pos} {i1 : Expr} {scope : Scope} {pos : Pos} {cenv : Env} {I D : Addr} {fp : List Addr} {zs : List Value} {ps : List (Value × Value)} {St : Nat → Heap → Prop} {m : Str → Option Value}
    (hh : A.handled = none) (W : Walks prog w A I fp [I] zs.length (fun i v => zs[i]? = some v) St) (hk : cenv.scope.kind = .function)
    (hx1 : cenv.kindOf x1 = some .local) (hb1 : (x1 == ("__debug__" : Str)) = false) (hx : cenv.kindOf x2 = some .local) (hb : (x2 == ("__debug__" : Str)) = false)
    (hp : (cenv.scope.kind == .class || (cenv.scope.kind == .module && cenv.locals != cenv.globals)) = false)
    (hs2 : ∀ x, foldedSetIterable (.Name x1 pq) cenv x = pure x)
    (hDC : D ≠ cenv.locals) (hDf : D ∉ fp) (hCf : cenv.locals ∉ fp) (hfo : ∀ b ∈ fp, ∃ o, s.heap.get? b = some o) (hIo : ∀ i h, St i h → ∃ o, h.get? I = some o)
    (hst : St 0 s.heap) (hacc : s.heap.PlainList D #[]) (hn : s.heap.Ns cenv.locals m)
    (hT : Paired (PairR (fun a => a ≠ cenv.locals ∧ a ≠ D ∧ a ≠ I) s.heap) ps zs) (hlen : ps.length ≤ 10)
    (hR : ∀ h' tk m', h'.Ns cenv.locals m' → h'.PlainList D (List.toArray (flatP ps)) → (∀ b o, b ≠ cenv.locals → b ≠ I → b ≠ D → s.heap.get? b = some o → h'.get? b = some o) → R (.ok .next) { s with heap := h', toks := tk }) :
    codeAny (model prog w) A (.compLoop (lc2 (.Name x2 pe) x1 px1 i1 x2 px2 (.Name x1 pq) scope pos) 0 (.ref I) (.ref D) cenv) R s := by
  have hII : I ∈ fp := W.sub _ (.head _)
  have hDI : D ≠ I := fun q => hDf (q ▸ hII)
  have hCI : cenv.locals ≠ I := fun q => hCf (q ▸ hII)
  have hlz := Paired.length hT
  refine codeAny_loop rfl (fun k s' => ∃ h' tk m' i, s' = { s with heap := h', toks := tk } ∧ St i h' ∧ h'.PlainList D (List.toArray (flatP (ps.take i))) ∧ h'.Ns cenv.locals m' ∧ i ≤ zs.length ∧ k = zs.length + 1 - i ∧ (∀ b o, b ≠ cenv.locals → b ≠ I → b ≠ D → s.heap.get? b = some o → h'.get? b = some o)) (fun k s' hI => ?_) (zs.length + 1)
    ⟨s.heap, s.toks, m, 0, rfl, hst, by simpa [flatP] using hacc, hn, Nat.zero_le _, rfl, fun _ _ _ _ _ e => e⟩
  obtain ⟨H, tk, m', i, rfl, hst', hacc', hn', hi, rfl, hk'⟩ := hI
  show wpAny _ A ((compTurn (lc2 (.Name x2 pe) x1 px1 i1 x2 px2 (.Name x1 pq) scope pos) 0 (.ref I) (.ref D) cenv).onRaise (fun x => do noteFrame x cenv; theTreesLotGoes x)) _ _ _
  refine wpAny_noted ?_
  rw [compTurn2_0]
  refine wpAny_bind (wpAny_standAt (wpAny_bind ?_))
  by_cases hlt : i < zs.length
  · refine W.item i _ _ _ hlt hst' fun v h₁ tk₁ hPv hst₁ hk₁ => ?_
    obtain ⟨t, nt, ht⟩ : ∃ t nt, ∃ p, ps[i]? = some p ∧ v = .ref t ∧ (t ≠ cenv.locals ∧ t ≠ D ∧ t ≠ I) ∧ s.heap.get? t = some (tup2 p.1 p.2 nt) := by
      obtain ⟨p, hp1⟩ : ∃ p, ps[i]? = some p := ⟨_, List.getElem?_eq_getElem (by omega)⟩
      obtain ⟨b, hb1, a, n, e, na, ea⟩ := Paired.get hT hp1
      rw [hPv] at hb1; cases hb1
      exact ⟨a, n, p, hp1, e, na, ea⟩
    obtain ⟨p, hpi, rfl, ⟨tC, tD, tI⟩, et⟩ := ht
    refine wpAny_bind (wpAny_of_eq (a := ()) (by rfl) ?_)
    refine wpAny_bind (wpAny_assign_Name (wpAny_storeName_local hx1 (hn'.at' fun o e => hk₁ _ o (by simpa using hCI) e) (fun h₂ hn₂ hs₂ => ?_) hp))
    have up₂ : ∀ b o, b ≠ cenv.locals → b ≠ I → H.get? b = some o → h₂.get? b = some o := fun b o hbC hbI e => hs₂.extBut b o hbC (hk₁ b o (by simpa using hbI) e)
    have hst₂ : St (i + 1) h₂ := W.frame _ _ _ hst₁ fun b hb o e => hs₂.extBut b o (fun h => hCf (h ▸ hb)) e
    have hacc₂ : h₂.PlainList D (List.toArray (flatP (ps.take i))) := hacc'.at fun o e => up₂ D o hDC hDI e
    have et₂ : h₂.get? t = some (tup2 p.1 p.2 nt) := up₂ t _ tC tI (hk' t _ tC tI tD et)
    have ht₂ : h₂.IsTuple t #[p.1, p.2] := ⟨_, et₂, rfl, _, rfl⟩
    refine wpAny_bind (wpAny_Name (wpAny_loadName_local hk hx1 hn₂ (if_pos rfl) ?_) hb1)
    refine wpAny_bind (wpAny_standAt (wpAny_bind (wpAny_of_eq (hs2 _) ?_)))
    refine wpAny_bind (wpAny_holding (wpAny_pyIter_tuple ht₂ ?_))
    have ltC : cenv.locals < h₂.objs.size := hn₂.lt
    have ltD : D < h₂.objs.size := by obtain ⟨_, e⟩ := hacc₂; exact Heap.lt_size e
    have ltT : t < h₂.objs.size := Heap.lt_size et₂
    have hni : t ≠ h₂.objs.size := Nat.ne_of_lt ltT
    have W2 : Walks prog w A h₂.objs.size [h₂.objs.size, t] [h₂.objs.size] [p.1, p.2].length (fun i v => [p.1, p.2][i]? = some v) (fun i h => h.IsTupleIter h₂.objs.size t i ∧ h.IsTuple t #[p.1, p.2]) := by
      have := Walks.tuple (prog := prog) (w := w) (A := A) hh h₂.objs.size t hni #[p.1, p.2]
      simpa using this
    have kD : D ∉ [h₂.objs.size, t] := by
      intro q
      rcases List.mem_cons.mp q with q | q
      · exact Nat.ne_of_lt ltD q
      · exact tD (List.mem_singleton.mp q).symm
    have kC : cenv.locals ∉ [h₂.objs.size, t] := by
      intro q
      rcases List.mem_cons.mp q with q | q
      · exact Nat.ne_of_lt ltC q
      · exact tC (List.mem_singleton.mp q).symm
    have st0 : (h₂.push { cls := .type "tuple_iterator", data := .fields #[.ref t, .int 0 0] }).IsTupleIter h₂.objs.size t 0 ∧ (h₂.push { cls := .type "tuple_iterator", data := .fields #[.ref t, .int 0 0] }).IsTuple t #[p.1, p.2] :=
      ⟨⟨_, Heap.get?_push_size _ rfl, rfl, rfl⟩, ht₂.push _⟩
    have inner : ∀ (tk0 : Nat) (R' : Result → Shared → Prop), (∀ h' tk m', h'.Ns cenv.locals m' → h'.PlainList D (List.toArray (flatP (ps.take i) ++ [p.1, p.2])) → (∀ b o, b ≠ cenv.locals → b ≠ h₂.objs.size → b ≠ D → (h₂.push { cls := .type "tuple_iterator", data := .fields #[.ref t, .int 0 0] }).get? b = some o → h'.get? b = some o) → R' (.ok .next) { s with heap := h', toks := tk }) →
        codeAny (model prog w) A (.compLoop (lc2 (.Name x2 pe) x1 px1 i1 x2 px2 (.Name x1 pq) scope pos) 1 (.ref h₂.objs.size) (.ref D) cenv) R' { s with heap := h₂.push { cls := .type "tuple_iterator", data := .fields #[.ref t, .int 0 0] }, toks := tk0 } := fun tk0 R' hR' =>
      inner2 (s := { s with heap := h₂.push { cls := .type "tuple_iterator", data := .fields #[.ref t, .int 0 0] }, toks := tk0 }) W2 hk hx hb hp hDC kD kC st0 (hacc₂.at fun o e => Heap.get?_push_of_some _ e) (hn₂.keeps fun b o e => Heap.get?_push_of_some _ e)
        (by rw [List.length_append, flatP_len, List.length_take]; unfold sizeLine; simp only [List.length_cons, List.length_nil]; omega) hR'
    have fin : ∀ h' tk m', h'.Ns cenv.locals m' → h'.PlainList D (List.toArray (flatP (ps.take i) ++ [p.1, p.2])) → (∀ b o, b ≠ cenv.locals → b ≠ h₂.objs.size → b ≠ D → (h₂.push { cls := .type "tuple_iterator", data := .fields #[.ref t, .int 0 0] }).get? b = some o → h'.get? b = some o) →
        ∃ k, k < zs.length + 1 - i ∧ ∃ h'' tk'' m'' i', ({ s with heap := h', toks := tk } : Shared) = { s with heap := h'', toks := tk'' } ∧ St i' h'' ∧ h''.PlainList D (List.toArray (flatP (ps.take i'))) ∧ h''.Ns cenv.locals m'' ∧ i' ≤ zs.length ∧ k = zs.length + 1 - i' ∧ (∀ b o, b ≠ cenv.locals → b ≠ I → b ≠ D → s.heap.get? b = some o → h''.get? b = some o) := fun h' tk m' n' pl kk => by
      refine ⟨zs.length + 1 - (i + 1), by omega, h', tk, m', i + 1, rfl, W.frame _ _ _ hst₂ fun b hb o e => kk b o (fun q => hCf (q ▸ hb)) (Nat.ne_of_lt (Heap.lt_size e)) (fun q => hDf (q ▸ hb)) (Heap.get?_push_of_some _ e), ?_, n', hlt, rfl, fun b o hbC hbI hbD e => ?_⟩
      · rw [flatP_next hpi]; exact pl
      · have e2 := up₂ b o hbC hbI (hk' b o hbC hbI hbD e)
        exact kk b o hbC (Nat.ne_of_lt (Heap.lt_size e2)) hbD (Heap.get?_push_of_some _ e2)
    refine wpAny_bind (wpAny_runOwn (start1 (inner _ _ fun h' tk m' n' pl kk => ?_) (W2.self 0 _ _ _ st0 (inner _ _ fun h' tk m' n' pl kk => ?_))))
    · exact wpAny_pure ⟨rfl, fin h' tk m' n' pl kk⟩
    · exact wpAny_pure ⟨rfl, fin h' tk m' n' pl kk⟩
  · have hin : i = zs.length := by omega
    subst hin
    rw [← hlz, List.take_length] at hacc'
    refine W.done _ _ _ hst' fun h₁ tk₁ hk₁ => ?_
    exact wpAny_pure (hR h₁ tk₁ m' (hn'.at' fun o e => hk₁ _ o (by simpa using hCI) e) (hacc'.at fun o e => hk₁ _ o (by simpa using hDI) e) fun b o hbC hbI hbD e => hk₁ b o (by simpa using hbI) (hk' b o hbC hbI hbD e))
end
section
variable {prog : Program} {w : World} {A : Around} {E : Value → Shared → Prop} {env : Env}
theorem block2 {x1 x2 : Str} {px1 px2 pe pq : Pos} {i1 : Expr} {scope : Scope} {cl : List (Str × Addr)} {pos : Pos} {s₂ : Shared} {I l : Addr} {zs : List Value} {ps : List (Value × Value)} {RR : Value → Addr → Result → Shared → Prop}
    (hh : A.handled = none) (hcell : ∀ y ∈ scope.names, y.2 ≠ .cell) (hkind : scope.kind = .function) (hx1 : scope.names.lookup x1 = some .local) (hb1 : (x1 == ("__debug__" : Str)) = false) (hx : scope.names.lookup x2 = some .local) (hb : (x2 == ("__debug__" : Str)) = false)
    (hs2 : ∀ C x, foldedSetIterable (.Name x1 pq) (compEnvC scope cl C env) x = pure x)
    (hIl : l ≠ I) (hst : s₂.heap.IsListIter I l 0 ∧ s₂.heap.IsList l (List.toArray zs)) (hT : Paired (PairR (fun a => a ≠ I) s₂.heap) ps zs) (hlen : ps.length ≤ 10)
    (hRR : ∀ D C h' tk m', s₂.heap.get? D = none → s₂.heap.get? C = none → D ≠ C → h'.Ns C m' → h'.PlainList D (List.toArray (flatP ps)) →
      (∀ b o, b ≠ I → s₂.heap.get? b = some o → h'.get? b = some o) → RR (.ref D) C (.ok .next) { s₂ with heap := h', toks := tk }) :
    wpAny (model prog w) A (newList []) (fun acc s₃ => wpAny (model prog w) A (newFunctionEnv scope env.globals cl [] env.qual none .none (some env)) (fun cenv s₄ =>
      codeAny (model prog w) A (.compStart (lc2 (.Name x2 pe) x1 px1 i1 x2 px2 (.Name x1 pq) scope pos) 0 (.ref I) acc { cenv with scope := relabel scope env }) (RR acc cenv.locals) s₄) E s₃) E s₂ := by
  obtain ⟨⟨oi, hoi, _⟩, ⟨ol, hol, _⟩⟩ := id hst
  refine wpAny_newObj_type (wpAny_newFunctionEnv hcell (by intro y hy; simp at hy) (fun h₁ hns₁ hsb₁ => ?_) hkind)
  dsimp only at hns₁ hsb₁ ⊢
  generalize hH2 : s₂.heap.push { cls := .type "list", dict := none, data := .seq ([] : List Value).toArray } = H2 at hns₁ hsb₁ ⊢
  have hC : H2.objs.size = s₂.heap.objs.size + 1 := by rw [← hH2, Heap.size_push]
  have hDC : s₂.heap.objs.size ≠ H2.objs.size := by rw [hC]; exact Nat.ne_of_lt (Nat.lt_succ_self _)
  have below : ∀ b, b < s₂.heap.objs.size → b ≠ H2.objs.size ∧ b ≠ s₂.heap.objs.size := fun b hb => ⟨by rw [hC]; exact Nat.ne_of_lt (Nat.lt_succ_of_lt hb), Nat.ne_of_lt hb⟩
  have old : ∀ b o, s₂.heap.get? b = some o → h₁.get? b = some o := fun b o e => hsb₁.extBut b o (below b (Heap.lt_size e)).1 (Heap.get?_push_of_some _ (hH2 ▸ Heap.get?_push_of_some _ e))
  have hacc : h₁.PlainList s₂.heap.objs.size #[] := ⟨_, hsb₁.extBut _ _ hDC (Heap.get?_push_of_some _ (hH2 ▸ Heap.get?_push_size _ rfl))⟩
  have W := Walks.list (prog := prog) (w := w) (A := A) hh I l hIl (List.toArray zs)
  have W' : Walks prog w A I [I, l] [I] zs.length (fun i v => zs[i]? = some v) (fun i h => h.IsListIter I l i ∧ h.IsList l (List.toArray zs)) := by simpa using W
  have hst₁ : h₁.IsListIter I l 0 ∧ h₁.IsList l (List.toArray zs) := W.frame 0 _ _ hst fun b _ o e => old b o e
  have fD : s₂.heap.get? s₂.heap.objs.size = none := none_of_size (Nat.le_refl _)
  have fC : s₂.heap.get? H2.objs.size = none := none_of_size (by rw [hC]; exact Nat.le_succ _)
  have nf : ∀ {X : Addr}, s₂.heap.get? X = none → X ∉ [I, l] := fun {X} e q => by
    rcases List.mem_cons.mp q with rfl | q
    · rw [hoi] at e; cases e
    · rw [List.mem_singleton.mp q, hol] at e; cases e
  have loop : ∀ s₃ : Shared, s₃ = { s₂ with heap := h₁, toks := s₂.toks + ([] : List (Str × Value)).length } →
      codeAny (model prog w) A (.compLoop (lc2 (.Name x2 pe) x1 px1 i1 x2 px2 (.Name x1 pq) scope pos) 0 (.ref I) (.ref s₂.heap.objs.size) (compEnvC scope cl H2.objs.size env))
        (RR (.ref s₂.heap.objs.size) H2.objs.size) s₃ := by
    rintro s₃ rfl
    refine outer2 (cenv := compEnvC scope cl H2.objs.size env) hh W' (by simp [compEnvC, relabel, hkind]) (lookup_relabel_local hx1) hb1 (lookup_relabel_local hx) hb (by simp [compEnvC, relabel, hkind]) (hs2 _) hDC (nf fD) (nf fC) (fun b hb => ?_) (fun _ _ e => let ⟨o, x, _⟩ := e.1; ⟨o, x⟩) hst₁ hacc hns₁
      (paired_mono (fun p v ⟨a, n, e, na, ea⟩ => ⟨a, n, e, ⟨(below a (Heap.lt_size ea)).1, (below a (Heap.lt_size ea)).2, na⟩, old _ _ ea⟩) hT) hlen (fun h' tk m' hn hpl hk => ?_)
    · rcases List.mem_cons.mp hb with rfl | hb
      · exact ⟨_, old _ _ hoi⟩
      · rw [List.mem_singleton.mp hb]; exact ⟨_, old _ _ hol⟩
    · exact hRR _ _ h' tk m' fD fC hDC hn hpl fun b o hbI e => hk b o (below b (Heap.lt_size e)).1 hbI (below b (Heap.lt_size e)).2 (old b o e)
  exact codeAny_compStart_list (loop _ rfl) (W.self 0 _ _ _ hst₁ (loop _ rfl))
theorem ListComp2 {s : Shared} {x1 x2 : Str} {px1 px2 pe pq : Pos} {i1 : Expr} {scope : Scope} {cl : List (Str × Addr)} {pos : Pos} {Q : Value → Shared → Prop}
    (hh : A.handled = none) (hclos : closureFor scope env = pure cl) (hcell : ∀ y ∈ scope.names, y.2 ≠ .cell) (hkind : scope.kind = .function)
    (hnames : ∀ y ∈ scope.names, y.2 = .local → scope.names.lookup y.1 = some .local) (hx1 : scope.names.lookup x1 = some .local) (hb1 : (x1 == ("__debug__" : Str)) = false) (hx : scope.names.lookup x2 = some .local) (hb : (x2 == ("__debug__" : Str)) = false)
    (hs : ∀ x, foldedSetIterable i1 env x = pure x) (hs2 : ∀ C x, foldedSetIterable (.Name x1 pq) (compEnvC scope cl C env) x = pure x)
    (h : wpAny (model prog w) A (eval i1 env) (fun xv s₁ => Stop (∃ l zs ps, xv = .ref l ∧ s₁.heap.IsList l (List.toArray zs) ∧ Paired (PairR (fun _ => True) s₁.heap) ps zs ∧ ps.length ≤ 10 ∧
      (∀ D h' tk, s₁.heap.get? D = none → h'.PlainList D (List.toArray (flatP ps)) → Kept [] s₁.heap h' → Q (.ref D) { s₁ with heap := h', toks := tk }))) E s) :
    wpAny (model prog w) A (eval (lc2 (.Name x2 pe) x1 px1 i1 x2 px2 (.Name x1 pq) scope pos) env) Q E s := by
  unfold lc2
  rw [eval_ListComp]
  refine wpAny_comprehension_free (use := none) rfl hs hclos hkind hnames (wpAny_mono h (fun xv s₁ h₁ => ?_) fun _ _ e => e)
  obtain ⟨l, zs, ps, rfl, hl, hT, hlen, done⟩ := h₁
  obtain ⟨ol, hol, _⟩ := id hl
  have low : ∀ a, (s₁.heap.push { cls := .type "list_iterator", data := .fields #[.ref l, .int 0 0] }).get? a = none → s₁.heap.get? a = none := fun a ha => by
    cases e : s₁.heap.get? a with
    | none => rfl
    | some o => rw [Heap.get?_push_of_some _ e] at ha; cases ha
  refine wpAny_pyIter_list hl ?_
  refine block2 (RR := fun acc C => compPost (model prog w) A E none Q acc C) hh hcell hkind hx1 hb1 hx hb hs2 (Nat.ne_of_lt (Heap.lt_size hol)) ⟨⟨_, Heap.get?_push_size _ rfl, rfl, rfl⟩, hl.at fun o e => Heap.get?_push_of_some _ e⟩
    (paired_mono (fun p v ⟨a, n, e, _, ea⟩ => ⟨a, n, e, Nat.ne_of_lt (Heap.lt_size ea), Heap.get?_push_of_some _ ea⟩) hT) hlen ?_
  intro D C h' tk m' hD hC hDC hn hpl hk
  refine ⟨m', hn, fun h'' hs'' => done D h'' tk (low _ hD) (hpl.at fun o e => hs''.extBut _ _ hDC e) fun b o e _ => hs''.extBut b o (fun q => ?_) (hk b o (Nat.ne_of_lt (Heap.lt_size e)) (Heap.get?_push_of_some _ e))⟩
  have := low _ hC
  rw [← q, e] at this; cases this
end
end

section
theorem calm25 : True := by
  w_top off
  exact True.intro
structure LenStop : Prop where
theorem words25 : True := by
  k_with "my mine lo" => ((k_here; k_dflt (first
  | (refine' use_lo1 ?hh ?hd ?hu ?hA ?B ?F ?K ?T ?hcs ?N ?hq ?h4 ?_; (case hh => exact rfl); (case hA => exact rfl); (case hd => exact Nat.le_of_ble_eq_true rfl); (case hu => exact Nat.le_of_ble_eq_true rfl); (case B => k_asm); (case F => k_asm); (case K => k_asm); (case T => k_asm); (case hcs => first | exact rfl | assumption); (case N => k_asm); (case hq => k_mem); (case h4 => k_is); k_whole; intro c' d' t1' t2' h' tk' z1 F' N'; (try k_sweep))
  | (refine' use_lo2 ?hh ?hd ?hu ?hA ?B ?F ?K ?T ?hcs ?N ?hq ?h4 ?_; (case hh => exact rfl); (case hA => exact rfl); (case hd => exact Nat.le_of_ble_eq_true rfl); (case hu => exact Nat.le_of_ble_eq_true rfl); (case B => k_asm); (case F => k_asm); (case K => k_asm); (case T => k_asm); (case hcs => first | exact rfl | assumption); (case N => k_asm); (case hq => k_mem); (case h4 => k_is); k_whole; intro c' d' t1' t2' c2' d2' t3' t4' h' tk' z1 z2 F' N'; (try k_sweep))
  | (refine' use_lo3 ?hh ?hd ?hu ?hA ?B ?F ?K ?T ?hcs ?N ?hq ?h4 ?_; (case hh => exact rfl); (case hA => exact rfl); (case hd => exact Nat.le_of_ble_eq_true rfl); (case hu => exact Nat.le_of_ble_eq_true rfl); (case B => k_asm); (case F => k_asm); (case K => k_asm); (case T => k_asm); (case hcs => first | exact rfl | assumption); (case N => k_asm); (case hq => k_mem); (case h4 => k_is); k_whole; intro c' d' t1' t2' c2' d2' t3' t4' c3' d3' t5' t6' h' tk' z1 z2 z3 F' N'; (try k_sweep))
  | (refine' use_cons ?hh ?hd ?hu ?hA ?B ?F ?K ?T ?hcs ?N ?h4 ?_; (case hh => exact rfl); (case hA => exact rfl); (case hd => exact Nat.le_of_ble_eq_true rfl); (case hu => exact Nat.le_of_ble_eq_true rfl); (case B => k_asm); (case F => k_asm); (case K => k_asm); (case T => k_asm); (case hcs => first | exact rfl | assumption); (case N => k_asm); (case h4 => k_is); k_whole; intro c' d' t1' t2' h' tk' z1 F' N'; (try k_sweep)))))
  k_with "my call ref" => (first | walk_at "mine lo" | ((with_reducible show wpAny _ _ (call (Value.ref 105) _) _ _ _); refine Stop.out ?_) | ((with_reducible show wpAny _ _ (call (Value.ref 112) _) _ _ _); refine Stop.out ?_))
  k_with "my exec For" => (refine Stop.out ?_)
  k_with "my exec For Name Call cons nil" => (refine Stop.out ?_)
  k_with "my call builtin:len" => (((rename LenStop => ls9); refine Stop.out ?_))
  k_with "my call builtin:len cons nil" => (((rename LenStop => ls9); refine Stop.out ?_))
  exact True.intro
theorem apart_cls {h : Heap} {a b : Addr} {o o' : Obj} (e : h.get? a = some o) (e' : h.get? b = some o') (c : o.cls ≠ o'.cls) : Apart a b := ⟨by rintro rfl; rw [e] at e'; cases e'; exact c rfl⟩
theorem apart_data {h : Heap} {a b : Addr} {o o' : Obj} {v : Option Value} (e : h.get? a = some o) (e' : h.get? b = some o') (c : o.data = .cell v) (c' : ∀ v, o'.data ≠ .cell v) : Apart a b := ⟨by rintro rfl; rw [e] at e'; cases e'; exact c' _ c⟩
theorem News.cons' {h₀ h : Heap} {L : Addr} {q : Addr × Obj} {r r' : List (Addr × Obj)} (N : News h₀ L h (q :: r)) (M : News h₀ L h r') : News h₀ L h (q :: r') := fun p hp => (List.mem_cons.mp hp).elim (fun e => e ▸ N q (List.Mem.head _)) (M p)
theorem norm2 {P E : Str} {m mE : Str → Option Value} (h : ∀ z, z ≠ P → z ≠ E → m z = mE z) : m = fun z => if z = P then m P else if z = E then m E else mE z := by
  funext z
  by_cases h1 : z = P
  · subst h1; simp
  · by_cases h2 : z = E
    · subst h2; simp [h1]
    · simp [h1, h2, h z h1 h2]
def things (t9 : Tok) (sa sb sc c1 c2 : Addr) : List Value := [.ref sa, .ref sb, .ref sc, .int 0 t9, .int 7 (t9 + 1), .int (10 ^ Int.toNat 30) (t9 + 1 + 1 + 1 + 1), .int (-7) (t9 + 1 + 1 + 1 + 1 + 1 + 1), .ref 44, .ref 47, .ref c1, .ref c2]
def led47 (w : World) (tl c2 d2 c1 d1 ol vl st dx L' p l sa sb sc : Addr) (t9 tv : Tok) (oC : Obj) (es1 es2 : List DictEntry) (its : List Value) (no nv : Nat) (oT op : Obj) : List (Addr × Obj) :=
  [(tl, listOf #[.ref sa, .ref sb, .ref sc, .int 0 t9, .int 7 (t9 + 1), .int (10 ^ Int.toNat 30) (t9 + 1 + 1 + 1 + 1), .int (-7) (t9 + 1 + 1 + 1 + 1 + 1 + 1), .ref 44, .ref 47, .ref c1, .ref c2] 0),
   (c2, instObj 65 d2), (d2, dictOf es2 2), (c1, instObj 65 d1), (d1, dictOf es1 2), (ol, listOf (List.toArray its) no), (vl, listOf (List.toArray its) nv), (st, instObj 115 dx), (dx, storeD w vl tv), (L' + 1 + 1, oT), (L' + 1, oC), (p, op)]
theorem News.nmt {h₀ h : Heap} {L a : Addr} {x1 x2 x3 : Value} {t : Tok} {r : List Value} {n : Nat} {rest : List (Addr × Obj)} (_ : News h₀ L h ((a, listOf (List.toArray (x1 :: x2 :: x3 :: .int 0 t :: r)) n) :: rest)) : ∃ b, b = t := ⟨t, rfl⟩
theorem News.nmv {w : World} {h₀ h : Heap} {L a : Addr} {t : Tok} {vl : Addr} {rest : List (Addr × Obj)} (_ : News h₀ L h ((a, storeD w vl t) :: rest)) : ∃ b, b = t := ⟨t, rfl⟩
theorem News.frame {h₀ h h' : Heap} {L I : Addr} {led : List (Addr × Obj)} (N : News h₀ L h led) (hI : ∀ a ∈ led.map (·.1), a ≠ I) (k : ∀ b o, b ≠ L → b ≠ I → h.get? b = some o → h'.get? b = some o) : News h₀ L h' led := fun q hq => ⟨k _ _ (N q hq).2.1 (hI _ (List.mem_map_of_mem hq)) (N q hq).1, (N q hq).2⟩
theorem News.up {h₀ h h' : Heap} {L : Addr} {led : List (Addr × Obj)} (N : News h₀ L h led) (k : ∀ b o, h.get? b = some o → h'.get? b = some o) : News h₀ L h' led := fun q hq => ⟨k _ _ (N q hq).1, (N q hq).2⟩
def ItemOk (R : List Addr) (tk : Nat) (x : Value) : Prop := (∃ (i : Int) (t : Nat), x = .int i t ∧ t ≠ 0 ∧ t < tk) ∨ ∃ a, x = .ref a ∧ a ∈ R
theorem ItemOk.mono {R : List Addr} {tk tk' : Nat} {x : Value} (h : ItemOk R tk x) (l : tk ≤ tk') : ItemOk R tk' x := h.imp (fun ⟨i, t, e, a, b⟩ => ⟨i, t, e, a, Nat.lt_of_lt_of_le b l⟩) id
theorem ItemOk.thing {R : List Addr} {tk : Nat} {x : Value} {h : Heap} (i : ItemOk R tk x) (hR : ∀ a ∈ R, Thing h (.ref a)) : Thing h x := by
  rcases i with ⟨i, t, rfl, a, _⟩ | ⟨a, rfl, m⟩
  · exact .inl ⟨i, t, rfl, a⟩
  · exact hR a m
def LedAt (w : World) (g : Heap) (tl c2 d2 c1 d1 ol vl st dx L' p l sa sb sc : Addr) (t9 tv : Tok) (oC : Obj) (h : Heap) (i tk : Nat) : Prop :=
  ∀ R9 : Prop, (∀ es1 es2 its no nv oT v0 at' ta x tx n, (News g L' h (led47 w tl c2 d2 c1 d1 ol vl st dx L' p l sa sb sc t9 tv oC es1 es2 its no nv oT (potO l at' ta x tx n))) → (oT.data = .cell v0) → (0 ≤ at') → (0 ≤ x) → (x < 100000) → (its.length ≤ i) → (∀ y ∈ its, ItemOk [sa, sb, sc, 44, 47, c1, c2] tk y) → R9) → R9
theorem LedAt.mk {w : World} {g : Heap} {tl c2 d2 c1 d1 ol vl st dx L' p l sa sb sc : Addr} {t9 tv : Tok} {oC : Obj} {h : Heap} {i tk : Nat} {es1 es2 : List DictEntry} {its : List Value} {no nv : Nat} {oT : Obj} {v0 : Option Value} {at' : Int} {ta : Tok} {x : Int} {tx : Tok} {n : Nat}
    (N : News g L' h (led47 w tl c2 d2 c1 d1 ol vl st dx L' p l sa sb sc t9 tv oC es1 es2 its no nv oT (potO l at' ta x tx n))) (a1 : oT.data = .cell v0) (a2 : 0 ≤ at') (a3 : 0 ≤ x) (a4 : x < 100000) (a5 : its.length ≤ i) (a6 : ∀ y ∈ its, ItemOk [sa, sb, sc, 44, 47, c1, c2] tk y) :
    LedAt w g tl c2 d2 c1 d1 ol vl st dx L' p l sa sb sc t9 tv oC h i tk := fun _ k9 => k9 es1 es2 its no nv oT v0 at' ta x tx n N a1 a2 a3 a4 a5 a6
theorem thing7 {g h : Heap} {sa sb sc c1 c2 d1 d2 : Addr} {es1 es2 : List DictEntry} {n1 n2 : Nat} (k : ∀ b o, g.get? b = some o → h.get? b = some o) (a : Thing g (.ref sa)) (b : Thing g (.ref sb)) (c : Thing g (.ref sc)) (d : Thing g (.ref 44)) (e : Thing g (.ref 47))
    (e1 : h.get? c1 = some (instObj 65 d1)) (e2 : h.get? d1 = some (dictOf es1 n1)) (e3 : h.get? c2 = some (instObj 65 d2)) (e4 : h.get? d2 = some (dictOf es2 n2)) : ∀ a ∈ [sa, sb, sc, 44, 47, c1, c2], Thing h (.ref a) := by
  have up : ∀ {x}, Thing g x → Thing h x := fun t => t.up (X := []) (fun b o e _ => k b o e) (by simp)
  simp only [List.forall_mem_cons, List.not_mem_nil, false_imp_iff, implies_true, and_true]
  exact ⟨up a, up b, up c, up d, up e, .inr ⟨_, _, _, _, rfl, e2, .inr e1⟩, .inr ⟨_, _, _, _, rfl, e4, .inr e3⟩⟩
theorem thing_pick {t9 : Tok} {sa sb sc c1 c2 : Addr} {i : Int} (h0 : 0 ≤ i) (h1 : i < 11) : ∃ x, (things t9 sa sb sc c1 c2)[i.toNat]? = some x ∧ ((∃ n t, x = .int n t) ∨ ∃ a, x = .ref a ∧ a ∈ [sa, sb, sc, 44, 47, c1, c2]) := by
  have : i = 0 ∨ i = 1 ∨ i = 2 ∨ i = 3 ∨ i = 4 ∨ i = 5 ∨ i = 6 ∨ i = 7 ∨ i = 8 ∨ i = 9 ∨ i = 10 := by omega
  rcases this with rfl | rfl | rfl | rfl | rfl | rfl | rfl | rfl | rfl | rfl | rfl
  all_goals refine ⟨_, rfl, ?_⟩
  all_goals first | exact .inl ⟨_, _, rfl⟩ | exact .inr ⟨_, rfl, by simp⟩
theorem SymAt.thing {w : World} {h : Heap} {a : Addr} {k : Int} {nm : Str} (x : SymAt w h a k nm) : Thing h (.ref a) := let ⟨d, _, _, _, _, e1, e2⟩ := x; .inr ⟨a, d, _, _, rfl, e2, .inl e1⟩
def PlaceJ (its : List Value) (v : Value) (i : Nat) (ys : List Value) : Prop := ∃ ns, IntsAre ys ns ∧ (if its.findIdx (same · v) < i then ns.head? = some ((its.findIdx (same · v) : Nat) : Int) else ns = []) ∧ ys.length ≤ i
theorem PlaceJ.skip {its : List Value} {v o : Value} {i : Nat} {ys : List Value} (h : PlaceJ its v i ys) (hi : its[i]? = some o) (hs : same o v = false) : PlaceJ its v (i + 1) ys := by
  obtain ⟨ns, a, b, c⟩ := h
  refine ⟨ns, a, ?_, by omega⟩
  have hne : its.findIdx (same · v) ≠ i := by
    intro e
    obtain ⟨hlt, e'⟩ := List.getElem?_eq_some_iff.mp hi
    have := List.findIdx_getElem (xs := its) (p := (same · v)) (w := by omega)
    simp only [e] at this
    rw [e', hs] at this; cases this
  by_cases h1 : its.findIdx (same · v) < i
  · rw [if_pos h1] at b; rw [if_pos (by omega)]; exact b
  · rw [if_neg h1] at b; rw [if_neg (by omega)]; exact b
theorem PlaceJ.add {its : List Value} {v o : Value} {i : Nat} {ys : List Value} {t : Tok} (h : PlaceJ its v i ys) (hi : its[i]? = some o) (hs : same o v = true) : PlaceJ its v (i + 1) (ys ++ [.int i t]) := by
  obtain ⟨ns, a, b, c⟩ := h
  refine ⟨ns ++ [(i : Int)], IntsAre.app a (.cons _ _ .nil), ?_, by simp; omega⟩
  have hle : its.findIdx (same · v) ≤ i := by
    obtain ⟨hlt, e'⟩ := List.getElem?_eq_some_iff.mp hi
    by_cases hh : its.findIdx (same · v) ≤ i
    · exact hh
    · have := List.not_of_lt_findIdx (xs := its) (p := (same · v)) (i := i) (by omega)
      rw [e', hs] at this; simp at this
  by_cases h1 : its.findIdx (same · v) < i
  · rw [if_pos h1] at b
    rw [if_pos (by omega), List.head?_append, b]; rfl
  · rw [if_neg h1] at b
    subst b
    have : its.findIdx (same · v) = i := by omega
    rw [if_pos (by omega), this]; rfl
theorem put_found {its : List Value} {v : Value} (h : its.findIdx (same · v) < its.length) : put its v = its := by
  unfold put
  rw [if_pos]
  exact List.any_eq_true.mpr ⟨_, List.getElem_mem h, by simpa using List.findIdx_getElem (w := h)⟩
theorem put_none {its : List Value} {v : Value} (h : ¬ its.findIdx (same · v) < its.length) : its.findIdx (same · v) = its.length ∧ put its v = its ++ [v] := by
  have e : its.findIdx (same · v) = its.length := Nat.le_antisymm List.findIdx_le_length (Nat.le_of_not_lt h)
  exact found_none (List.findIdx_eq_length.mp e)
theorem small_len {its : List Value} {j : Nat} {i : Int} (h : its.length ≤ j) (hj : j < (3 + i).toNat) (hi : i < 9) : ((List.toArray its).size : Int) < 2 ^ 63 := by simp; omega
theorem small_len2 {its : List Value} {j : Nat} {i : Int} (h : its.length ≤ j) (hj : j < (3 + i).toNat) (hi : i < 9) : its.length ≤ 12 := by omega
theorem small_len3 {its : List Value} {i : Int} (h : its.length ≤ (3 + i).toNat) (hi : i < 9) : its.length ≤ 12 := by omega
theorem Fr.nm {h₀ h : Heap} {L : Addr} {m : Str → Option Value} (F : Fr h₀ L h m) : ∃ mm, mm = m ∧ Fr h₀ L h mm := ⟨m, rfl, F⟩
theorem two_ways {prog : Program} {w : World} {A : Around} {env : Env} {st : Stmt} {rest : List Stmt} {Q : Flow → Shared → Prop} {E : Value → Shared → Prop} {s : Shared} (P : Shared → Prop)
    (h1 : wpAny (model prog w) A (exec st env) (fun f s' => f = .next ∧ P s') E s) (h2 : ∀ s', P s' → s.toks ≤ s'.toks → wpAny (model prog w) A (execs rest env) Q E s') : wpAny (model prog w) A (execs (st :: rest) env) Q E s := by
  refine wpAny_execs_cons (wpAny_with_toks (n := s.toks) (Nat.le_refl _) (wpAny_mono h1 (fun f s' h ht => ?_) fun _ _ e _ => e))
  obtain ⟨rfl, h⟩ := h
  exact h2 s' h ht
theorem cName_local {M : Model} {A : Around} {E : Value → Shared → Prop} {s : Shared} {C : Addr} {scope : Scope} {cl : List (Str × Addr)} {env : Env} {x : Str} {pos : Pos} {v : Value} {m : Str → Option Value} {Q : Value → Shared → Prop} (hn : s.heap.Ns C m) (hv : m x = some v) (h : Q v s)
    (hk : (compEnvC scope cl C env).scope.kind = .function) (hx : (compEnvC scope cl C env).kindOf x = some .local) (hb : (x == ("__debug__" : Str)) = false := by decide) :
    wpAny M A (eval (.Name x pos) (compEnvC scope cl C env)) Q E s := wpAny_Name (wpAny_loadName_local hk hx hn hv h) hb
structure EndN (X : List Addr) (J' : Heap → Prop) (s₂ s₃ : Shared) : Prop where
  ex : ∃ h₃ tk₃, s₃ = { s₂ with heap := h₃, toks := tk₃ } ∧ Kept X s₂.heap h₃ ∧ J' h₃
structure EndY (X : List Addr) (J' : Value → Heap → Prop) (s₂ : Shared) (y : Value) (s₄ : Shared) : Prop where
  ex : ∃ h₄ tk₄, s₄ = { s₂ with heap := h₄, toks := tk₄ } ∧ Kept X s₂.heap h₄ ∧ J' y h₄
theorem words26 : True := by
  k_with "my eval Name" => ((k_here; (with_reducible show wpAny _ _ (eval (Expr.Name _ _) (compEnvC _ _ _ _)) _ _ _); first
  | (refine' cName_local ?n ?v ?_ ?a ?b; (case a => rfl); (case b => rfl); (case n => with_reducible assumption); (case v => with_reducible assumption); k_whole)
  | (refine' lcf_cell ?N ?c ?m ?d ?_ ?a ?b; (case a => rfl); (case b => rfl); (case N => k_asm); (case c => rfl); (case m => k_mem); (case d => with_reducible assumption); k_whole)
  | (refine' lcf_free ?N ?c ?m ?d ?_ ?a ?b; (case a => rfl); (case b => rfl); (case N => k_asm); (case c => rfl); (case m => k_mem); (case d => with_reducible assumption); k_whole)))
  k_with "my compareOp Is" => ((k_here; (fail_if_success (with_reducible show wpAny _ _ (compareOp _ (Value.ref _) (Value.ref _)) _ _ _)); refine Stop.out ?_))
  k_with "my call builtin:isinstance" => ((k_here; (with_reducible show wpAny _ _ (call (Value.builtin "isinstance") [_, Value.type "int"]) _ _ _); (fail_if_success (with_reducible show wpAny _ _ (call (Value.builtin "isinstance") [Value.int _ _, Value.type "int"]) _ _ _)); refine Stop.out ?_))
  k_with "my subscriptTail Name Constant ref int" => ((k_here; (with_reducible show wpAny _ _ (subscriptTail (Expr.Name (Str.ofString "places") _) _ (Value.ref _) (Value.int _ _)) _ _ _); refine Stop.out ?_))
  exact True.intro
theorem EndN.of {X : List Addr} {J' : Heap → Prop} {s₂ : Shared} {h : Heap} {tk : Nat} (k : Kept X s₂.heap h) (j : J' h) : EndN X J' s₂ { s₂ with heap := h, toks := tk } := ⟨h, tk, rfl, k, j⟩
theorem EndY.of {X : List Addr} {J' : Value → Heap → Prop} {s₂ : Shared} {y : Value} {h : Heap} {tk : Nat} (k : Kept X s₂.heap h) (j : J' y h) : EndY X J' s₂ y { s₂ with heap := h, toks := tk } := ⟨h, tk, rfl, k, j⟩
theorem TurnJ.split {prog : Program} {w : World} {A : Around} {ifs : List Expr} {elt : Expr} {cenv : Env} {X : List Addr} {J : Nat → List Value → Heap → Prop} {i : Nat} {ys : List Value} {s₂ : Shared}
    (h : ∀ E', wpAny (model prog w) A (testsIn ifs cenv) (fun ok s₃ => if ok = true then wpAny (model prog w) A (eval elt cenv) (EndY X (fun y h => J (i + 1) (ys ++ [y]) h) s₂) E' s₃ else EndN X (J (i + 1) ys) s₂ s₃) E' s₂) : TurnJ prog w A ifs elt cenv X J i ys s₂ :=
  fun E' => wpAny_mono (h E') (fun ok s₃ q => by
    cases ok with
    | false => rw [if_neg Bool.false_ne_true] at q ⊢; exact q.ex
    | true => rw [if_pos rfl] at q ⊢; exact wpAny_mono q (fun y s₄ r => r.ex) fun _ _ e => e) fun _ _ e => e
def Turn2 (w : World) (g : Heap) (tl c2 d2 c1 d1 ol vl st dx L' p l sa sb sc : Addr) (t9 tv : Tok) (oC : Obj) (I : Addr) (oI : Obj) (es1 es2 : List DictEntry) (its : List Value) (no nv : Nat) (mm : Str → Option Value) (s₃ : Shared) (C : Value → Nat → Prop) (s' : Shared) : Prop :=
  ∀ R9 : Prop, (∀ h tk v oT at' ta x tx n, (s' = { s₃ with heap := h, toks := tk }) → (Fr g L' h mm) → (News g L' h ((I, oI) :: led47 w tl c2 d2 c1 d1 ol vl st dx L' p l sa sb sc t9 tv oC es1 es2 its no nv oT (potO l at' ta x tx n))) → (oT.data = .cell (some v)) → (0 ≤ at') → (0 ≤ x) → (x < 100000) → (C v tk) → R9) → R9
theorem Turn2.mk {w : World} {g : Heap} {tl c2 d2 c1 d1 ol vl st dx L' p l sa sb sc : Addr} {t9 tv : Tok} {oC : Obj} {I : Addr} {oI : Obj} {es1 es2 : List DictEntry} {its : List Value} {no nv : Nat} {mm : Str → Option Value} {s₃ : Shared} {C : Value → Nat → Prop} {h : Heap} {tk : Nat} {v : Value} {oT : Obj} {at' : Int} {ta : Tok} {x : Int} {tx : Tok} {n : Nat}
    (a : Fr g L' h mm) (b : News g L' h ((I, oI) :: led47 w tl c2 d2 c1 d1 ol vl st dx L' p l sa sb sc t9 tv oC es1 es2 its no nv oT (potO l at' ta x tx n))) (c : oT.data = .cell (some v)) (d : 0 ≤ at') (e : 0 ≤ x) (f : x < 100000) (k : C v tk) :
    Turn2 w g tl c2 d2 c1 d1 ol vl st dx L' p l sa sb sc t9 tv oC I oI es1 es2 its no nv mm s₃ C { s₃ with heap := h, toks := tk } := fun _ k9 => k9 h tk v oT at' ta x tx n rfl a b c d e f k
def Turn3 (w : World) (g : Heap) (tl c2 d2 c1 d1 ol vl st dx L' p l sa sb sc : Addr) (t9 tv : Tok) (oC : Obj) (I : Addr) (oI : Obj) (es1 es2 : List DictEntry) (its : List Value) (no nv : Nat) (mm : Str → Option Value) (s₃ : Shared) (tk0 : Nat) (v : Value) (s' : Shared) : Prop :=
  ∀ R9 : Prop, (∀ h tk oT at' ta x tx n D ys nD, (s' = { s₃ with heap := h, toks := tk }) → (Fr g L' h (fun z => if z = Str.ofString "places" then some (.ref D) else mm z)) → (News g L' h ((D, listOf (List.toArray ys) nD) :: (I, oI) :: led47 w tl c2 d2 c1 d1 ol vl st dx L' p l sa sb sc t9 tv oC es1 es2 its no nv oT (potO l at' ta x tx n))) → (oT.data = .cell (some v)) → (0 ≤ at') → (0 ≤ x) → (x < 100000) → (tk0 ≤ tk) → (PlaceJ its v its.length ys) → (∀ a ∈ [I, tl, c2, d2, c1, d1, ol, vl, st, dx, L' + 1 + 1, L' + 1, p], D ≠ a) → R9) → R9
theorem Turn3.mk {w : World} {g : Heap} {tl c2 d2 c1 d1 ol vl st dx L' p l sa sb sc : Addr} {t9 tv : Tok} {oC : Obj} {I : Addr} {oI : Obj} {es1 es2 : List DictEntry} {its : List Value} {no nv : Nat} {mm : Str → Option Value} {s₃ : Shared} {tk0 : Nat} {v : Value} {h : Heap} {tk : Nat} {oT : Obj} {at' : Int} {ta : Tok} {x : Int} {tx : Tok} {n : Nat} {D : Addr} {ys : List Value} {nD : Nat}
    (a : Fr g L' h (fun z => if z = Str.ofString "places" then some (.ref D) else mm z)) (b : News g L' h ((D, listOf (List.toArray ys) nD) :: (I, oI) :: led47 w tl c2 d2 c1 d1 ol vl st dx L' p l sa sb sc t9 tv oC es1 es2 its no nv oT (potO l at' ta x tx n))) (c : oT.data = .cell (some v)) (d : 0 ≤ at') (e : 0 ≤ x) (f : x < 100000) (tt : tk0 ≤ tk) (pj : PlaceJ its v its.length ys) (ap : ∀ a ∈ [I, tl, c2, d2, c1, d1, ol, vl, st, dx, L' + 1 + 1, L' + 1, p], D ≠ a) :
    Turn3 w g tl c2 d2 c1 d1 ol vl st dx L' p l sa sb sc t9 tv oC I oI es1 es2 its no nv mm s₃ tk0 v { s₃ with heap := h, toks := tk } := fun _ k9 => k9 h tk oT at' ta x tx n D ys nD rfl a b c d e f tt pj ap
def led48 (w : World) (tl c2 d2 c1 d1 ol vl st dx L' p l sa sb sc : Addr) (t9 tv : Tok) (oC : Obj) (es1 es2 : List DictEntry) (itsO itsV : List Value) (no nv : Nat) (oT op : Obj) : List (Addr × Obj) :=
  [(tl, listOf #[.ref sa, .ref sb, .ref sc, .int 0 t9, .int 7 (t9 + 1), .int (10 ^ Int.toNat 30) (t9 + 1 + 1 + 1 + 1), .int (-7) (t9 + 1 + 1 + 1 + 1 + 1 + 1), .ref 44, .ref 47, .ref c1, .ref c2] 0),
   (c2, instObj 65 d2), (d2, dictOf es2 2), (c1, instObj 65 d1), (d1, dictOf es1 2), (ol, listOf (List.toArray itsO) no), (vl, listOf (List.toArray itsV) nv), (st, instObj 115 dx), (dx, storeD w vl tv), (L' + 1 + 1, oT), (L' + 1, oC), (p, op)]
def Turn4 (w : World) (g : Heap) (tl c2 d2 c1 d1 ol vl st dx L' p l sa sb sc : Addr) (t9 tv : Tok) (oC : Obj) (I : Addr) (oI : Obj) (es1 es2 : List DictEntry) (its : List Value) (nv : Nat) (mm : Str → Option Value) (s₃ : Shared) (v : Value) (s' : Shared) : Prop :=
  ∀ R9 : Prop, (∀ h tk oT at' ta x tx n D t rest nD no, (s' = { s₃ with heap := h, toks := tk }) → (Fr g L' h (fun z => if z = Str.ofString "places" then some (.ref D) else mm z)) → (News g L' h ((D, listOf (List.toArray (.int ((its.findIdx (same · v) : Nat) : Int) t :: rest)) nD) :: (I, oI) :: led48 w tl c2 d2 c1 d1 ol vl st dx L' p l sa sb sc t9 tv oC es1 es2 (put its v) its no nv oT (potO l at' ta x tx n))) → (oT.data = .cell (some v)) → (0 ≤ at') → (0 ≤ x) → (x < 100000) → (∀ a ∈ [I, tl, c2, d2, c1, d1, ol, vl, st, dx, L' + 1 + 1, L' + 1, p], D ≠ a) → R9) → R9
theorem Turn4.mk {w : World} {g : Heap} {tl c2 d2 c1 d1 ol vl st dx L' p l sa sb sc : Addr} {t9 tv : Tok} {oC : Obj} {I : Addr} {oI : Obj} {es1 es2 : List DictEntry} {its itsO : List Value} {no nv : Nat} {mm : Str → Option Value} {s₃ : Shared} {v : Value} {h : Heap} {tk : Nat} {oT : Obj} {at' : Int} {ta : Tok} {x : Int} {tx : Tok} {n : Nat} {D : Addr} {t : Tok} {rest : List Value} {nD : Nat} {m' : Str → Option Value}
    (a : Fr g L' h m') (b : News g L' h ((D, listOf (List.toArray (.int ((its.findIdx (same · v) : Nat) : Int) t :: rest)) nD) :: (I, oI) :: led48 w tl c2 d2 c1 d1 ol vl st dx L' p l sa sb sc t9 tv oC es1 es2 itsO its no nv oT (potO l at' ta x tx n))) (c : oT.data = .cell (some v)) (d : 0 ≤ at') (e : 0 ≤ x) (f : x < 100000) (ap : ∀ a ∈ [I, tl, c2, d2, c1, d1, ol, vl, st, dx, L' + 1 + 1, L' + 1, p], D ≠ a) (hO : itsO = put its v) (hm : m' = fun z => if z = Str.ofString "places" then some (.ref D) else mm z) :
    Turn4 w g tl c2 d2 c1 d1 ol vl st dx L' p l sa sb sc t9 tv oC I oI es1 es2 its nv mm s₃ v { s₃ with heap := h, toks := tk } := by
  subst hO; subst hm
  exact fun _ k9 => k9 h tk oT at' ta x tx n D t rest nD no rfl a b c d e f ap
def Turn5 (w : World) (g : Heap) (tl c2 d2 c1 d1 ol vl st dx L' p l sa sb sc : Addr) (t9 tv : Tok) (oC : Obj) (I : Addr) (oI : Obj) (es1 es2 : List DictEntry) (its : List Value) (no : Nat) (oT op : Obj) (mm : Str → Option Value) (s₃ : Shared) (D : Addr) (s' : Shared) : Prop :=
  ∀ R9 : Prop, (∀ h tk nv, (s' = { s₃ with heap := h, toks := tk }) → (Fr g L' h (fun z => if z = Str.ofString "places" then some (.ref D) else mm z)) → (News g L' h ((I, oI) :: led48 w tl c2 d2 c1 d1 ol vl st dx L' p l sa sb sc t9 tv oC es1 es2 its its no nv oT op)) → R9) → R9
theorem Turn5.mk {w : World} {g : Heap} {tl c2 d2 c1 d1 ol vl st dx L' p l sa sb sc : Addr} {t9 tv : Tok} {oC : Obj} {I : Addr} {oI : Obj} {es1 es2 : List DictEntry} {its : List Value} {no nv : Nat} {oT op : Obj} {mm : Str → Option Value} {s₃ : Shared} {D : Addr} {h : Heap} {tk : Nat}
    (a : Fr g L' h (fun z => if z = Str.ofString "places" then some (.ref D) else mm z)) (b : News g L' h ((I, oI) :: led48 w tl c2 d2 c1 d1 ol vl st dx L' p l sa sb sc t9 tv oC es1 es2 its its no nv oT op)) :
    Turn5 w g tl c2 d2 c1 d1 ol vl st dx L' p l sa sb sc t9 tv oC I oI es1 es2 its no oT op mm s₃ D { s₃ with heap := h, toks := tk } := fun _ k9 => k9 h tk nv rfl a b
theorem News.swap {g h h' : Heap} {L : Addr} {pre post : List (Addr × Obj)} {a : Addr} {o o' : Obj} (N : News g L h (pre ++ (a, o) :: post)) (k : Kept [a] h h') (e : h'.get? a = some o') (ap : ∀ q ∈ pre ++ post, q.1 ≠ a) : News g L h' (pre ++ (a, o') :: post) := fun q hq => by
  rcases List.mem_append.mp hq with hq | hq
  · have := N q (List.mem_append_left _ hq)
    exact ⟨k _ _ this.1 (by simpa using ap q (List.mem_append_left _ hq)), this.2⟩
  · rcases List.mem_cons.mp hq with rfl | hq
    · exact ⟨e, (N (_, o) (List.mem_append_right _ (List.Mem.head _))).2⟩
    · have := N q (List.mem_append_right _ (List.Mem.tail _ hq))
      exact ⟨k _ _ this.1 (by simpa using ap q (List.mem_append_right _ hq)), this.2⟩
theorem led_vl {w : World} {g : Heap} {tl c2 d2 c1 d1 ol vl st dx L' p sa sb sc : Addr} {l : Addr} {t9 tv : Tok} {oC : Obj} {I D : Addr} {oI oD : Obj} {es1 es2 : List DictEntry} {itsO itsV itsV' : List Value} {no nv nv' : Nat} {oT op : Obj} {h h' : Heap}
    (N : News g L' h ((D, oD) :: (I, oI) :: led48 w tl c2 d2 c1 d1 ol vl st dx L' p l sa sb sc t9 tv oC es1 es2 itsO itsV no nv oT op)) (k : Kept [vl] h h') (e : h'.get? vl = some (listOf (List.toArray itsV') nv')) (ap : ∀ a ∈ [D, I, tl, c2, d2, c1, d1, ol, st, dx, L' + 1 + 1, L' + 1, p], a ≠ vl) :
    News g L' h' ((D, oD) :: (I, oI) :: led48 w tl c2 d2 c1 d1 ol vl st dx L' p l sa sb sc t9 tv oC es1 es2 itsO itsV' no nv' oT op) := by
  unfold led48 at N ⊢
  exact News.swap (pre := [(D, _), (I, _), (tl, _), (c2, _), (d2, _), (c1, _), (d1, _), (ol, _)]) (post := [(st, _), (dx, _), (L' + 1 + 1, _), (L' + 1, _), (p, _)]) N k e
    (fun q hq => ap q.1 (List.mem_map_of_mem (f := Prod.fst) hq))
theorem same_nil {x v : Value} (h : x = v ∨ same x v = true) : same x (.ref 44) = same v (.ref 44) := by
  rcases h with rfl | h
  · rfl
  · cases x <;> cases v <;> simp [same] at h ⊢
    subst h; rfl
theorem put_at {its : List Value} {v : Value} : ∃ x, (put its v)[its.findIdx (same · v)]? = some x ∧ (x = v ∨ (x ∈ its ∧ same x v = true)) := by
  by_cases h : its.findIdx (same · v) < its.length
  · rw [put_found h]
    exact ⟨its[its.findIdx (same · v)], List.getElem?_eq_getElem h, .inr ⟨List.getElem_mem h, by simpa using List.findIdx_getElem (w := h)⟩⟩
  · rw [(put_none h).2, (put_none h).1]
    exact ⟨v, by simp, .inl rfl⟩
theorem put_mem {its : List Value} {v y : Value} (h : y ∈ put its v) : y ∈ its ∨ y = v := by
  unfold put at h
  split at h
  · exact .inl h
  · simpa using h
theorem put_len {its : List Value} {v : Value} : (put its v).length ≤ its.length + 1 ∧ its.findIdx (same · v) ≤ its.length := by
  refine ⟨?_, List.findIdx_le_length⟩
  unfold put
  split <;> simp
theorem words27 : True := by
  k_with "my subscriptTail" => ((k_here; (with_reducible show wpAny _ _ (subscriptTail (Expr.Name (Str.ofString "things") _) _ (Value.ref _) (Value.int _ _)) _ _ _); refine Stop.out ?_))
  k_with "my subscriptTail" => ((k_here; (with_reducible show wpAny _ _ (subscriptTail (Expr.Name (Str.ofString "own") _) _ (Value.ref _) (Value.int _ _)) _ _ _); refine Stop.out ?_))
  k_with "my subscriptTail Name Name ref int" => ((k_here; (with_reducible show wpAny _ _ (subscriptTail (Expr.Name (Str.ofString "own") _) _ (Value.ref _) (Value.int _ _)) _ _ _); refine Stop.out ?_))
  k_with "my k_ne" => ((refine neN ?_; (try dsimp only); first | (with_reducible exact Apart.ne (by assumption)) | (with_reducible exact (Apart.ne (by assumption)).symm) | walk_at "ne47"))
  exact True.intro
set_option maxHeartbeats 4000000 in
theorem store_ct {w : World} {mg mb : Str → Option Value} {mean : ExcName → Option Value} {s : Shared} {p l S sa sb sc : Addr} (hp : PotAt s.heap p l) (hl : IntsAt s.heap l) (hS : SymsAt w s.heap S sa sb sc) :
    Ct w mg mb mean 500 1000 246 [.ref p, .ref S] s [p] (fun r h' => PotAt h' p l ∧ r = .bool true) := by
  have hpl := pot_ne hp hl
  have hpq := PotAt.lst hp
  obtain ⟨at', ta, x, tx, n, ho, h0, hx0, hx1⟩ := hp
  unfold Ct
  k_fill
  intro gd cn cs a ccd cl outer A₀ base h₀ L m Q E B F X T hcs hX hret
  have N : News h₀ L s.heap [(p, potO l at' ta x tx n)] := fun q hq => by
    rw [List.mem_singleton.mp hq]; exact ⟨ho, (hX p (.head _)).2, (hX p (.head _)).1⟩
  walk_at "mine enter"
  intro g L' h₁ tk₁ cells FG F₁ N₁ Y BG XG TG l1 kG; k_lt l1; k_cells Y; (try simp only [List.cons_append, List.nil_append] at N₁); (try dsimp only)
  have hlg := hl.kept (X := [p]) kG (by simpa using Ne.symm hpl)
  have hSg := SymsAt.up hS (X := [p]) kG hpq
  clear hS
  obtain ⟨nS, eS, hA7, hB7, hC7, _⟩ := id hSg
  have h7a := hA7.thing
  have h7b := hB7.thing
  have h7c := hC7.thing
  clear hA7 hB7 hC7
  refine' use_at (K := hd47.heap_39 w.params) (c := 44) ?a ?_
  case a => k_is
  intro e44
  refine' use_at (K := hd47.heap_39 w.params) (c := 43) ?a ?_
  case a => k_is
  intro e43
  have h7d := Thing.sym XG e44 e43
  clear e44 e43
  refine' use_at (K := hd47.heap_39 w.params) (c := 47) ?a ?_
  case a => k_is
  intro e47
  refine' use_at (K := hd47.heap_39 w.params) (c := 46) ?a ?_
  case a => k_is
  intro e46
  have h7e := Thing.sym XG e47 e46
  clear e47 e46
  refine' use_at (K := hd47.heap_39 w.params) (c := 2) ?a ?_
  case a => k_is
  intro e2
  have hnb := booked_in XG e2
  clear e2
  have hSL : Heap.IsList g S (List.toArray [.ref sa, .ref sb, .ref sc]) := ⟨_, eS, rfl, _, rfl⟩
  k_steps
  (with_reducible refine Stop.mk ?_)
  (rename Fr g _ _ _ => Fe); (rename News g _ _ _ => Ne)
  obtain ⟨tl, rfl⟩ := News.nm Ne
  obtain ⟨c2, rfl⟩ := News.nm (News.tl (News.tl Ne))
  obtain ⟨d2, rfl⟩ := News.nm (News.tl (News.tl (News.tl Ne)))
  obtain ⟨c1, rfl⟩ := News.nm (News.tl (News.tl (News.tl (News.tl (News.tl Ne)))))
  obtain ⟨d1, rfl⟩ := News.nm (News.tl (News.tl (News.tl (News.tl (News.tl (News.tl Ne))))))
  obtain ⟨ol, rfl⟩ := News.nm (News.tl (News.tl (News.tl (News.tl (News.tl (News.tl (News.tl (News.tl (News.tl Ne)))))))))
  obtain ⟨vl, rfl⟩ := News.nm (News.tl (News.tl (News.tl (News.tl (News.tl (News.tl (News.tl (News.tl (News.tl (News.tl Ne))))))))))
  obtain ⟨st, rfl⟩ := News.nm (News.tl (News.tl (News.tl (News.tl (News.tl (News.tl (News.tl (News.tl (News.tl (News.tl (News.tl Ne)))))))))))
  obtain ⟨dx, rfl⟩ := News.nm (News.tl (News.tl (News.tl (News.tl (News.tl (News.tl (News.tl (News.tl (News.tl (News.tl (News.tl (News.tl Ne))))))))))))
  obtain ⟨oT, rfl⟩ := News.nmo (News.tl (News.tl (News.tl (News.tl (News.tl (News.tl (News.tl (News.tl (News.tl (News.tl (News.tl (News.tl (News.tl Ne)))))))))))))
  obtain ⟨oC, rfl⟩ := News.nmo (News.tl (News.tl (News.tl (News.tl (News.tl (News.tl (News.tl (News.tl (News.tl (News.tl (News.tl (News.tl (News.tl (News.tl Ne))))))))))))))
  (rename (Obj.data _ = Data.cell (some (Value.ref ol))) => dC)
  (rename (Obj.data oT = _) => dT)
  have dT : oT.data = .cell none := dT
  have ch1 : @LT.lt Nat instLTNat (p) L' := by omega
  have ch2 : @LT.lt Nat instLTNat (L' + 1 + 1) dx := by omega
  have ch3 : @LT.lt Nat instLTNat (dx) st := by omega
  have ch4 : @LT.lt Nat instLTNat (st) vl := by omega
  have ch5 : @LT.lt Nat instLTNat (vl) ol := by omega
  have ch6 : @LT.lt Nat instLTNat (ol) tl := by omega
  have Nk := News.cons' Ne (News.cons' (News.tl (News.tl Ne)) (News.cons' (News.tl (News.tl (News.tl Ne))) (News.cons' (News.tl (News.tl (News.tl (News.tl (News.tl Ne))))) (News.cons' (News.tl (News.tl (News.tl (News.tl (News.tl (News.tl Ne)))))) (News.tl (News.tl (News.tl (News.tl (News.tl (News.tl (News.tl (News.tl (News.tl Ne)))))))))))))
  have ac1p : Apart c1 p := apart_cls (Nk.get (a := c1) (by k_mem)) (Nk.get (a := p) (by k_mem)) (by simp)
  have ac1ol : Apart c1 ol := apart_cls (Nk.get (a := c1) (by k_mem)) (Nk.get (a := ol) (by k_mem)) (by simp)
  have ac1vl : Apart c1 vl := apart_cls (Nk.get (a := c1) (by k_mem)) (Nk.get (a := vl) (by k_mem)) (by simp)
  have ac1tl : Apart c1 tl := apart_cls (Nk.get (a := c1) (by k_mem)) (Nk.get (a := tl) (by k_mem)) (by simp)
  have ac1T : Apart (L' + 1 + 1) c1 := apart_data (Nk.get (a := L' + 1 + 1) (by k_mem)) (Nk.get (a := c1) (by k_mem)) dT (by simp)
  have ac1C : Apart (L' + 1) c1 := apart_data (Nk.get (a := L' + 1) (by k_mem)) (Nk.get (a := c1) (by k_mem)) dC (by simp)
  have ad1p : Apart d1 p := apart_cls (Nk.get (a := d1) (by k_mem)) (Nk.get (a := p) (by k_mem)) (by simp)
  have ad1ol : Apart d1 ol := apart_cls (Nk.get (a := d1) (by k_mem)) (Nk.get (a := ol) (by k_mem)) (by simp)
  have ad1vl : Apart d1 vl := apart_cls (Nk.get (a := d1) (by k_mem)) (Nk.get (a := vl) (by k_mem)) (by simp)
  have ad1tl : Apart d1 tl := apart_cls (Nk.get (a := d1) (by k_mem)) (Nk.get (a := tl) (by k_mem)) (by simp)
  have ad1T : Apart (L' + 1 + 1) d1 := apart_data (Nk.get (a := L' + 1 + 1) (by k_mem)) (Nk.get (a := d1) (by k_mem)) dT (by simp)
  have ad1C : Apart (L' + 1) d1 := apart_data (Nk.get (a := L' + 1) (by k_mem)) (Nk.get (a := d1) (by k_mem)) dC (by simp)
  have ac2p : Apart c2 p := apart_cls (Nk.get (a := c2) (by k_mem)) (Nk.get (a := p) (by k_mem)) (by simp)
  have ac2ol : Apart c2 ol := apart_cls (Nk.get (a := c2) (by k_mem)) (Nk.get (a := ol) (by k_mem)) (by simp)
  have ac2vl : Apart c2 vl := apart_cls (Nk.get (a := c2) (by k_mem)) (Nk.get (a := vl) (by k_mem)) (by simp)
  have ac2tl : Apart c2 tl := apart_cls (Nk.get (a := c2) (by k_mem)) (Nk.get (a := tl) (by k_mem)) (by simp)
  have ac2T : Apart (L' + 1 + 1) c2 := apart_data (Nk.get (a := L' + 1 + 1) (by k_mem)) (Nk.get (a := c2) (by k_mem)) dT (by simp)
  have ac2C : Apart (L' + 1) c2 := apart_data (Nk.get (a := L' + 1) (by k_mem)) (Nk.get (a := c2) (by k_mem)) dC (by simp)
  have ad2p : Apart d2 p := apart_cls (Nk.get (a := d2) (by k_mem)) (Nk.get (a := p) (by k_mem)) (by simp)
  have ad2ol : Apart d2 ol := apart_cls (Nk.get (a := d2) (by k_mem)) (Nk.get (a := ol) (by k_mem)) (by simp)
  have ad2vl : Apart d2 vl := apart_cls (Nk.get (a := d2) (by k_mem)) (Nk.get (a := vl) (by k_mem)) (by simp)
  have ad2tl : Apart d2 tl := apart_cls (Nk.get (a := d2) (by k_mem)) (Nk.get (a := tl) (by k_mem)) (by simp)
  have ad2T : Apart (L' + 1 + 1) d2 := apart_data (Nk.get (a := L' + 1 + 1) (by k_mem)) (Nk.get (a := d2) (by k_mem)) dT (by simp)
  have ad2C : Apart (L' + 1) d2 := apart_data (Nk.get (a := L' + 1) (by k_mem)) (Nk.get (a := d2) (by k_mem)) dC (by simp)
  repeat ((rename (@LT.lt Nat _ _ _ ∧ _) => zz9); clear zz9)
  clear Ne
  refine ForT (by with_unfolding_all rfl) (by with_unfolding_all rfl) (by intro _; with_unfolding_all rfl) ?_
  k_steps
  (rename Fr g _ _ _ => Fe); (rename News g _ _ _ => Ne); (rename IsRange _ _ _ _ _ _ _ _ => hR)
  obtain ⟨mE, I, hmE, hId, hI1, hI2, hI3, FE⟩ := Fr.name Fe
  clear Fe
  have aI := fun b o e => Apart.mk (hI3 b o e)
  obtain ⟨t9, rfl⟩ := News.nmt (r := [_, _, _, _, _, _, _]) Ne
  obtain ⟨tv, ht9⟩ := News.nmv (w := w) (News.tl (News.tl (News.tl (News.tl (News.tl (News.tl (News.tl (News.tl Ne))))))))
  (try simp only [← ht9] at Ne)
  have hAI : ∀ a ∈ [tl, c2, d2, c1, d1, ol, vl, st, dx, L' + 1 + 1, L' + 1, p], a ≠ I := by
    simp only [List.forall_mem_cons, List.not_mem_nil, false_imp_iff, implies_true, and_true]
    exact ⟨hI3 _ _ (Ne.get (by k_mem)), hI3 _ _ (Ne.get (by k_mem)), hI3 _ _ (Ne.get (by k_mem)), hI3 _ _ (Ne.get (by k_mem)), hI3 _ _ (Ne.get (by k_mem)), hI3 _ _ (Ne.get (by k_mem)), hI3 _ _ (Ne.get (by k_mem)), hI3 _ _ (Ne.get (by k_mem)), hI3 _ _ (Ne.get (by k_mem)), hI3 _ _ (Ne.get (by k_mem)), hI3 _ _ (Ne.get (by k_mem)), hI3 _ _ (Ne.get (by k_mem))⟩
  refine forRangeT (fun i m h tk => (∀ b o, g.get? b = some o → h.get? b = some o) ∧ (∀ z, z ≠ Str.ofString "places" → z ≠ Str.ofString "each_turn" → m z = mE z) ∧ LedAt w g tl c2 d2 c1 d1 ol vl st dx L' p l sa sb sc t9 tv oC h i tk)
    hId (by rfl) hR (by omega) (by omega) FE.ns ?_ ?_ ?_ ?_
  · intro h k
    refine ⟨fun b o e => k b o (FE.keep b o e), fun z _ _ => rfl, ?_⟩
    exact LedAt.mk (its := []) (News.up Ne k) dT (by assumption) (by assumption) (by assumption) (Nat.le_refl 0) (by simp)
  · rintro i m h h' tk tk' htk ⟨k, hm, hl9⟩ kk
    refine hl9 _ ?_; clear hl9
    rintro es1 es2 its no nv oT' v0 at1 ta1 x1 tx1 n1 N r1 r2 r3 r4 r5 r6
    exact ⟨fun b o e => Fr.ground FE hI1 kk e (k b o e), hm, fun _ k9 => k9 es1 es2 its no nv oT' v0 at1 ta1 x1 tx1 n1 (News.frame N hAI kk) r1 r2 r3 r4 r5 (fun y hy => (r6 y hy).mono htk)⟩
  · rintro j tj m₁ s₃ E' hj ⟨kk, hm, hl9⟩ hn' ⟨oI, eI⟩ hs3
    refine hl9 _ ?_; clear hl9
    rintro es1 es2 its no nv oT' v0 at1 ta1 x1 tx1 n1 N3 r1 r2 r3 r4 r5 r6
    obtain ⟨u, u', rfl⟩ : ∃ u u', m₁ = fun z => if z = Str.ofString "places" then u else if z = Str.ofString "each_turn" then u' else mE z := ⟨_, _, norm2 hm⟩
    clear hm
    have F₃ : Fr g L' s₃.heap _ := ⟨hn', kk, FE.above⟩
    have N₃ : News g L' s₃.heap ((I, oI) :: led47 w tl c2 d2 c1 d1 ol vl st dx L' p l sa sb sc t9 tv oC es1 es2 its no nv oT' (potO l at1 ta1 x1 tx1 n1)) := News.cons (fun q hq => by rw [List.mem_singleton.mp hq]; exact ⟨eI, hI2, hI1⟩) N3
    dsimp only [led47] at N₃
    have i1 : Apart tl I := ⟨hAI _ (by simp)⟩
    have i2 : Apart c2 I := ⟨hAI _ (by simp)⟩
    have i3 : Apart d2 I := ⟨hAI _ (by simp)⟩
    have i4 : Apart c1 I := ⟨hAI _ (by simp)⟩
    have i5 : Apart d1 I := ⟨hAI _ (by simp)⟩
    have i6 : Apart ol I := ⟨hAI _ (by simp)⟩
    have i7 : Apart vl I := ⟨hAI _ (by simp)⟩
    have i8 : Apart st I := ⟨hAI _ (by simp)⟩
    have i9 : Apart dx I := ⟨hAI _ (by simp)⟩
    have i10 : Apart (L' + 1 + 1) I := ⟨hAI _ (by simp)⟩
    have i11 : Apart (L' + 1) I := ⟨hAI _ (by simp)⟩
    have i12 : Apart p I := ⟨hAI _ (by simp)⟩
    clear FE Ne N3 hAI
    subst hmE
    obtain ⟨mm, hmm, F₄⟩ := Fr.nm F₃
    clear F₃ hn'
    refine two_ways (Turn2 w g tl c2 d2 c1 d1 ol vl st dx L' p l sa sb sc t9 tv oC I oI es1 es2 its no nv mm s₃ (fun v _ => (∃ n t, v = .int n t) ∨ ∃ a, v = .ref a ∧ a ∈ [sa, sb, sc, 44, 47, c1, c2])) ?_ ?_
    --B<
    · subst hmm
      k_steps
      (with_reducible refine Stop.mk ?_)
      (rename (_ < (11 : Int)) => b11)
      obtain ⟨x0, hx0, hx1⟩ := thing_pick (t9 := t9) (sa := sa) (sb := sb) (sc := sc) (c1 := c1) (c2 := c2) (h1 := b11) (h0 := by assumption)
      (rename News g _ _ _ => Ne)
      have il : Heap.IsList _ tl (List.toArray (things t9 sa sb sc c1 c2)) := ⟨_, Ne.get (by k_mem), rfl, _, rfl⟩
      refine item_any il (by assumption) (by omega) hx0 ?_ (by with_unfolding_all rfl)
      clear il hx0
      k_steps
      all_goals first
        | exact True.intro
        | ((rename Fr g _ _ _ => Fz); (rename News g _ _ _ => Nz)
           exact Turn2.mk Fz Nz (by assumption) (by assumption) (by assumption) (by assumption) hx1)
    --B>
    rintro s4 hx9 htk4
    refine hx9 _ ?_; clear hx9
    rintro h4 tk4 x0 oT4 at4 ta4 x4 tx4 n4 rfl F5 N5 r1 r2 r3 r4 hx1
    replace htk4 : s₃.toks ≤ tk4 := htk4
    clear N₃ F₄
    dsimp only [led47] at N5
    refine two_ways (Turn2 w g tl c2 d2 c1 d1 ol vl st dx L' p l sa sb sc t9 tv oC I oI es1 es2 its no nv mm s₃ (fun v tk => ItemOk [sa, sb, sc, 44, 47, c1, c2] tk v ∧ ∀ y ∈ its, apart y v)) ?_ ?_
    --C<
    · subst hmm
      k_steps
      rcases hx1 with ⟨n0, t0, rfl⟩ | ⟨a0, rfl, ha0⟩
      · k_steps
        (with_reducible refine Stop.mk ?_)
        refine PySem.IsiPair.int_int ?_
        k_steps
        all_goals try exact True.intro
        (rename Fr g _ _ _ => Fz); (rename News g _ _ _ => Nz)
        refine Turn2.mk Fz Nz (by assumption) (by assumption) (by assumption) (by assumption) ⟨.inl ⟨_, _, rfl, ?_, ?_⟩, ?_⟩
        · show @Ne Nat (tk4 + _) 0
          omega
        · show @LT.lt Nat instLTNat _ _
          dsimp only
          omega
        · intro y hy
          rcases r6 y hy with ⟨i9, t9, rfl, q1, q2⟩ | ⟨a9, rfl, _⟩
          · show @Ne Nat t9 (tk4 + _)
            have q3 : @LT.lt Nat instLTNat t9 s₃.toks := q2
            have q4 : @LE.le Nat instLENat s₃.toks tk4 := htk4
            omega
          · trivial
      · (rename Fr g _ _ _ => Fe); (rename News g _ _ _ => Ne)
        have R7 := thing7 (c1 := c1) (c2 := c2) Fe.keep h7a h7b h7c h7d h7e (Ne.get (by k_mem)) (Ne.get (by k_mem)) (Ne.get (by k_mem)) (Ne.get (by k_mem))
        (with_reducible refine Stop.mk ?_)
        refine isint (XG.keeps Fe.keep) (R7 _ ha0) ?_
        intro tk5 htk5
        clear R7
        simp only [isI]
        k_steps
        all_goals try exact True.intro
        (rename Fr g _ _ _ => Fz); (rename News g _ _ _ => Nz)
        refine Turn2.mk Fz Nz (by assumption) (by assumption) (by assumption) (by assumption) ⟨.inr ⟨_, rfl, ha0⟩, ?_⟩
        intro y hy
        cases y <;> trivial
    --C>
    rintro s5 hx9 htk5
    refine hx9 _ ?_; clear hx9
    rintro h5 tk5 v oT5 at5 ta5 x5 tx5 n5 rfl F6 N6 q1 q2 q3 q4 ⟨hv, hap⟩
    replace htk5 : tk4 ≤ tk5 := htk5
    clear N5 F5 r1 r2 r3 r4 hx1
    dsimp only [led47] at N6
    refine two_ways (Turn3 w g tl c2 d2 c1 d1 ol vl st dx L' p l sa sb sc t9 tv oC I oI es1 es2 its no nv mm s₃ tk5 v) ?_ ?_
    --A<
    · subst hmm
      refine wpAny_with_toks (n := tk5) (Nat.le_refl _) ?_
      have lst : LenStop := ⟨⟩
      k_steps
      (with_reducible refine Stop.mk ?_)
      refine Assign_ListCompJ [] (by with_unfolding_all rfl) (by with_unfolding_all rfl) (by decide) (by with_unfolding_all rfl) (by decide) (by with_unfolding_all rfl) (by with_unfolding_all rfl) (by with_unfolding_all rfl) (by simp) (by intro _; with_unfolding_all rfl) ?_
      k_steps
      (with_reducible refine Stop.mk ?_)
      (rename News g _ _ _ => Ne)
      have il : Heap.IsList _ ol (List.toArray its) := ⟨_, Ne.get (a := ol) (o := listOf (List.toArray its) _) (by k_mem), rfl, _, rfl⟩
      refine PyProof.Rows.len_list il (small_len r5 hj (by assumption)) ?_
      clear il
      k_steps
      (rename Fr g _ _ _ => Fe); (rename News g _ _ _ => Ne); (rename IsRange _ _ _ _ _ _ _ _ => hR)
      have hlen12 := small_len2 r5 hj (by assumption)
      refine rangeA [] (fun N i ys h => PlaceJ its v i ys) (fun _ => False) (by rfl) hR (Int.natCast_nonneg _) (by simp; omega) (by simp) (by simp) Fe.ns (by simp) ?_ ?_ ?_ ?_
      · intro N h k
        exact ⟨[], .nil, by simp, by simp⟩
      · rintro N N' i ys h h' a _ _
        exact a
      · rintro C N j2 tj2 ys s6 m6 hj2 hPJ hn6 hm6 hC hK hN hNX
        refine TurnJ.split ?_
        intro E6
        have F₃ := Fr.kept Fe hK (by simp)
        have N₃ := News.all Ne hK
        clear Fe Ne
        k_steps
        (with_reducible refine Stop.mk ?_)
        (rename Fr g _ _ _ => Fe); (rename News g _ _ _ => Ne)
        obtain ⟨o1, ho1⟩ : ∃ o1, its[j2]? = some o1 := ⟨_, List.getElem?_eq_getElem (by simpa using hj2)⟩
        have il : Heap.IsList _ ol (List.toArray its) := ⟨_, Ne.get (a := ol) (o := listOf (List.toArray its) _) (by k_mem), rfl, _, rfl⟩
        have hj20 : ((j2 : Nat) : Int) < 2 ^ 63 := by have : j2 < its.length := by simpa using hj2
                                                      omega
        refine item_any il (Int.natCast_nonneg _) hj20 (by simpa using ho1) ?_ (by with_unfolding_all rfl)
        clear il
        have h1I : ItemOk [sa, sb, sc, 44, 47, c1, c2] s₃.toks o1 := r6 _ (List.mem_of_getElem? ho1)
        have h1a : apart o1 v := hap _ (List.mem_of_getElem? ho1)
        have R7 := thing7 (c1 := c1) (c2 := c2) Fe.keep h7a h7b h7c h7d h7e (Ne.get (by k_mem)) (Ne.get (by k_mem)) (Ne.get (by k_mem)) (Ne.get (by k_mem))
        k_steps
        (with_reducible refine Stop.mk ?_)
        refine is_things (h1I.thing R7) (hv.thing R7) h1a (booked_of Fe hnb) ?_
        intro bb hb1 hb2
        cases bb
        · k_steps
          (with_reducible refine Stop.mk ?_)
          refine isint (XG.keeps Fe.keep) (hv.thing R7) ?_
          intro tk9 htk9
          cases hi1 : isI v
          · clear R7
            k_steps
            exact EndN.of Kept.refl (hPJ.skip ho1 (hb2 rfl (.inr hi1)))
          · k_steps
            (with_reducible refine Stop.mk ?_)
            have il : Heap.IsList _ ol (List.toArray its) := ⟨_, Ne.get (a := ol) (o := listOf (List.toArray its) _) (by k_mem), rfl, _, rfl⟩
            refine item_any il (Int.natCast_nonneg _) hj20 (by simpa using ho1) ?_ (by with_unfolding_all rfl)
            clear il
            k_steps
            (with_reducible refine Stop.mk ?_)
            refine isint (XG.keeps Fe.keep) (h1I.thing R7) ?_
            intro tk9 htk9
            clear R7
            cases hi2 : isI o1
            · k_steps
              exact EndN.of Kept.refl (hPJ.skip ho1 (hb2 rfl (.inl hi2)))
            · obtain ⟨p1, u1, rfl⟩ : ∃ p t, o1 = .int p t := by cases o1 <;> simp [isI] at hi2; exact ⟨_, _, rfl⟩
              obtain ⟨qv, u2, rfl⟩ : ∃ q u, v = .int q u := by cases v <;> simp [isI] at hi1; exact ⟨_, _, rfl⟩
              k_steps
              (with_reducible refine Stop.mk ?_)
              have il : Heap.IsList _ ol (List.toArray its) := ⟨_, Ne.get (a := ol) (o := listOf (List.toArray its) _) (by k_mem), rfl, _, rfl⟩
              refine item_any il (Int.natCast_nonneg _) hj20 (by simpa using ho1) ?_ (by with_unfolding_all rfl)
              clear il
              k_steps
              · exact EndY.of Kept.refl (hPJ.add ho1 (by simp [same]; assumption))
              · exact EndN.of Kept.refl (hPJ.skip ho1 (by simp [same]; assumption))
        · clear R7
          k_steps
          exact EndY.of Kept.refl (hPJ.add ho1 (hb1 rfl))
      · rintro D h7 tk7 ys hD ⟨nD, eD⟩ hlen hPJ hns7 hK htk7
        have nD' := Fr.new Fe hD
        have F7 := Fr.assign Fe hns7 hK (by simp)
        have N7 := News.cons (q := (D, listOf (List.toArray ys) nD)) (fun z hz => by rw [List.mem_singleton.mp hz]; exact ⟨eD, nD'⟩) (News.but Ne hK)
        have hDn : ∀ b o, Heap.get? _ b = some o → D ≠ b := fun b o e => by rintro rfl; rw [hD] at e; cases e
        refine ⟨rfl, Turn3.mk F7 N7 q1 q2 q3 q4 htk7 (by simpa using hPJ) ?_⟩
        simp only [List.forall_mem_cons, List.not_mem_nil, false_imp_iff, implies_true, and_true]
        exact ⟨hDn _ _ (Ne.get (by k_mem)), hDn _ _ (Ne.get (by k_mem)), hDn _ _ (Ne.get (by k_mem)), hDn _ _ (Ne.get (by k_mem)), hDn _ _ (Ne.get (by k_mem)), hDn _ _ (Ne.get (by k_mem)), hDn _ _ (Ne.get (by k_mem)), hDn _ _ (Ne.get (by k_mem)), hDn _ _ (Ne.get (by k_mem)), hDn _ _ (Ne.get (by k_mem)), hDn _ _ (Ne.get (by k_mem)), hDn _ _ (Ne.get (by k_mem)), hDn _ _ (Ne.get (by k_mem))⟩
    --A>
    rintro s6 hx9 _
    refine hx9 _ ?_; clear hx9
    rintro h6 tk6 oT6 at6 ta6 x6 tx6 n6 D ys nD rfl F7 N7 q1 q2 q3 q4 htk6 hPJ hDa
    clear N6 F6
    dsimp only [led47] at N7
    have D1 : Apart D I := ⟨hDa _ (by simp)⟩
    have D2 : Apart D tl := ⟨hDa _ (by simp)⟩
    have D3 : Apart D c2 := ⟨hDa _ (by simp)⟩
    have D4 : Apart D d2 := ⟨hDa _ (by simp)⟩
    have D5 : Apart D c1 := ⟨hDa _ (by simp)⟩
    have D6 : Apart D d1 := ⟨hDa _ (by simp)⟩
    have D7 : Apart D ol := ⟨hDa _ (by simp)⟩
    have D8 : Apart D vl := ⟨hDa _ (by simp)⟩
    have D9 : Apart D st := ⟨hDa _ (by simp)⟩
    have D10 : Apart D dx := ⟨hDa _ (by simp)⟩
    have D11 : Apart D (L' + 1 + 1) := ⟨hDa _ (by simp)⟩
    have D12 : Apart D (L' + 1) := ⟨hDa _ (by simp)⟩
    have D13 : Apart D p := ⟨hDa _ (by simp)⟩
    have hlen12 := small_len2 r5 hj (by assumption)
    refine two_ways (Turn4 w g tl c2 d2 c1 d1 ol vl st dx L' p l sa sb sc t9 tv oC I oI es1 es2 its nv mm s₃ v) ?_ ?_
    --D<
    · obtain ⟨ns, hI, hif, hlen⟩ := hPJ
      subst hmm
      by_cases hf : its.findIdx (same · v) < its.length
      · rw [if_pos hf] at hif
        have hpt := put_found hf
        cases hI with
        | nil => simp at hif
        | cons n0 t0 r0 =>
          simp at hif
          subst hif
          k_steps
          all_goals try (exfalso; (rename (decide _ = true) => hd9); simp at hd9; done)
          (rename Fr g _ _ _ => Fz); (rename News g _ _ _ => Nz)
          exact Turn4.mk Fz (News.tl Nz) (by assumption) (by assumption) (by assumption) (by assumption) hDa hpt.symm rfl
      · rw [if_neg hf] at hif
        have hpt := put_none hf
        subst hif
        cases hI
        have lst : LenStop := ⟨⟩
        k_steps
        (with_reducible refine Stop.mk ?_)
        (rename News g _ _ _ => Ne)
        have il : Heap.IsList _ ol (List.toArray its) := ⟨_, Ne.get (a := ol) (o := listOf (List.toArray its) _) (by k_mem), rfl, _, rfl⟩
        refine PyProof.Rows.len_list il (small_len r5 hj (by assumption)) ?_
        clear il
        have e9 : ((List.toArray its).size : Int) = ((its.findIdx (same · v) : Nat) : Int) := by rw [hpt.1]; simp
        rw [e9]
        k_steps
        (rename Fr g _ _ _ => Fz); (rename News g _ _ _ => Nz); (rename (@LT.lt _ _ _ _ ∧ _) => zz)
        have Nq := News.cons' Nz (News.tl (News.tl (News.tl Nz)))
        have e7 : (List.toArray its).push v = List.toArray (its ++ [v]) := by simp
        rw [e7] at Nq
        refine Turn4.mk (itsO := its ++ [v]) Fz Nq (by assumption) (by assumption) (by assumption) (by assumption) ?_ hpt.2.symm ?_
        · obtain ⟨_, _, g1, g2, g3, g4, g5, g6, g7, g8, g9, g10, g11, g12, g13, _⟩ := zz
          simp only [List.forall_mem_cons, List.not_mem_nil, false_imp_iff, implies_true, and_true]
          exact ⟨Nat.ne_of_gt g1, Nat.ne_of_gt g2, Nat.ne_of_gt g3, Nat.ne_of_gt g4, Nat.ne_of_gt g5, Nat.ne_of_gt g6, Nat.ne_of_gt g7, Nat.ne_of_gt g8, Nat.ne_of_gt g9, Nat.ne_of_gt g10, Nat.ne_of_gt g11, Nat.ne_of_gt g12, Nat.ne_of_gt g13⟩
        · funext z
          by_cases h1 : z = Str.ofString "places"
          · subst h1; simp
          · simp [h1]
    --D>
    rintro s7 hx9 htk7
    refine hx9 _ ?_; clear hx9
    rintro h7 tk7 oT7 at7 ta7 x7 tx7 n7 D t rest nD no rfl F8 N8 q1 q2 q3 q4 hDa
    replace htk7 : tk5 ≤ tk7 := Nat.le_trans htk6 htk7
    clear N7 F7
    dsimp only [led48] at N8
    have D1 : Apart D I := ⟨hDa _ (by simp)⟩
    have D2 : Apart D tl := ⟨hDa _ (by simp)⟩
    have D3 : Apart D c2 := ⟨hDa _ (by simp)⟩
    have D4 : Apart D d2 := ⟨hDa _ (by simp)⟩
    have D5 : Apart D c1 := ⟨hDa _ (by simp)⟩
    have D6 : Apart D d1 := ⟨hDa _ (by simp)⟩
    have D7 : Apart D ol := ⟨hDa _ (by simp)⟩
    have D8 : Apart D vl := ⟨hDa _ (by simp)⟩
    have D9 : Apart D st := ⟨hDa _ (by simp)⟩
    have D10 : Apart D dx := ⟨hDa _ (by simp)⟩
    have D11 : Apart D (L' + 1 + 1) := ⟨hDa _ (by simp)⟩
    have D12 : Apart D (L' + 1) := ⟨hDa _ (by simp)⟩
    have D13 : Apart D p := ⟨hDa _ (by simp)⟩
    refine two_ways (Turn5 w g tl c2 d2 c1 d1 ol vl st dx L' p l sa sb sc t9 tv oC I oI es1 es2 (put its v) no oT7 (potO l at7 ta7 x7 tx7 n7) mm s₃ D) ?_ ?_
    --E<
    · subst hmm
      k_steps
      (with_reducible refine Stop.mk ?_)
      (rename Fr g _ _ _ => Fe); (rename News g _ _ _ => Ne)
      have R7 := thing7 (c1 := c1) (c2 := c2) Fe.keep h7a h7b h7c h7d h7e (Ne.get (by k_mem)) (Ne.get (by k_mem)) (Ne.get (by k_mem)) (Ne.get (by k_mem))
      refine' use_ct (index_ct (its := its) (nl := nv) (Ne.get (a := st) (by k_mem)) (Ne.get (a := dx) (o := storeD w vl tv) (by k_mem)) (Ne.get (a := vl) (o := listOf (List.toArray its) nv) (by k_mem)) (by omega) (fun y hy => ⟨(r6 y hy).thing R7, hap y hy⟩) (hv.thing R7)) ?hh ?hd ?hu ?hA ?B ?F ?K ?T ?hcs ?hX ?_; (case hh => exact rfl); (case hA => exact rfl); (case hd => exact Nat.le_of_ble_eq_true rfl); (case hu => exact Nat.le_of_ble_eq_true rfl); (case B => k_asm); (case F => exact Fe); (case K => k_asm); (case T => k_asm); (case hcs => exact rfl); (case hX => exact News.inX Ne (p := vl) (o := listOf (List.toArray its) nv) (by k_mem))
      rintro r9 h9 tk9 F9 k9 ⟨t9', nv', rfl, e9⟩
      have N9 := led_vl (w := w) (tl := tl) (c2 := c2) (d2 := d2) (c1 := c1) (d1 := d1) (ol := ol) (st := st) (dx := dx) (p := p) (l := l) (sa := sa) (sb := sb) (sc := sc) (t9 := t9) (tv := tv) (oC := oC) (es1 := es1) (es2 := es2) (itsO := put its v) (itsV := its) (no := no) (nv := nv) (oT := oT7) (op := potO l at7 ta7 x7 tx7 n7) Ne k9 e9 (by
        simp only [List.forall_mem_cons, List.not_mem_nil, false_imp_iff, implies_true, and_true]
        refine ⟨?_, ?_, ?_, ?_, ?_, ?_, ?_, ?_, ?_, ?_, ?_, ?_, ?_⟩
        all_goals k_ne)
      clear Ne Fe R7
      dsimp only [led48] at N9
      have hpl := put_len (its := its) (v := v)
      obtain ⟨xq, hxq, hxs⟩ := put_at (its := its) (v := v)
      k_steps
      (with_reducible refine Stop.mk ?_)
      (rename News g _ _ _ => Ne)
      have il : Heap.IsList _ D (List.toArray (.int ((its.findIdx (same · v) : Nat) : Int) t :: rest)) := ⟨_, Ne.get (a := D) (o := listOf (List.toArray (.int ((its.findIdx (same · v) : Nat) : Int) t :: rest)) nD) (by k_mem), rfl, _, rfl⟩
      refine item_any il (by decide) (by decide) rfl ?_ (by with_unfolding_all rfl)
      clear il
      k_steps
      all_goals try exact absurd rfl (by assumption)
      (with_reducible refine Stop.mk ?_)
      (rename News g _ _ _ => Ne)
      have il : Heap.IsList _ D (List.toArray (.int ((its.findIdx (same · v) : Nat) : Int) t :: rest)) := ⟨_, Ne.get (a := D) (o := listOf (List.toArray (.int ((its.findIdx (same · v) : Nat) : Int) t :: rest)) nD) (by k_mem), rfl, _, rfl⟩
      refine item_any il (by decide) (by decide) rfl ?_ (by with_unfolding_all rfl)
      clear il
      k_steps
      (with_reducible refine Stop.mk ?_)
      (rename Fr g _ _ _ => Fe); (rename News g _ _ _ => Ne)
      have R7 := thing7 (c1 := c1) (c2 := c2) Fe.keep h7a h7b h7c h7d h7e (Ne.get (by k_mem)) (Ne.get (by k_mem)) (Ne.get (by k_mem)) (Ne.get (by k_mem))
      have hIx : ItemOk [sa, sb, sc, 44, 47, c1, c2] tk5 xq := by
        rcases hxs with e | ⟨hm9, _⟩
        · rw [e]; exact hv
        · exact (r6 _ hm9).mono (Nat.le_trans htk4 htk5)
      refine' use_ct (nil_ct (its := put its v) (nl := nv') (x := xq) (Ne.get (a := st) (by k_mem)) (Ne.get (a := dx) (o := storeD w vl tv) (by k_mem)) (Ne.get (a := vl) (o := listOf (List.toArray (put its v)) nv') (by k_mem)) hxq (by omega) (hIx.thing R7)) ?hh ?hd ?hu ?hA ?B ?F ?K ?T ?hcs ?hX ?_; (case hh => exact rfl); (case hA => exact rfl); (case hd => exact Nat.le_of_ble_eq_true rfl); (case hu => exact Nat.le_of_ble_eq_true rfl); (case B => k_asm); (case F => exact Fe); (case K => k_asm); (case T => k_asm); (case hcs => exact rfl); (case hX => (intro x hx; cases hx))
      rintro r10 h10 tk10 F10 k10 rfl
      have N10 := News.all Ne k10
      clear Ne Fe R7
      rw [same_nil (hxs.imp id And.right)]
      k_steps
      (with_reducible refine Stop.mk ?_)
      (rename Fr g _ _ _ => Fe); (rename News g _ _ _ => Ne)
      have R7 := thing7 (c1 := c1) (c2 := c2) Fe.keep h7a h7b h7c h7d h7e (Ne.get (by k_mem)) (Ne.get (by k_mem)) (Ne.get (by k_mem)) (Ne.get (by k_mem))
      refine is_things (hv.thing R7) (R7 44 (by simp)) (by unfold apart; split <;> first | trivial | contradiction) (booked_of Fe hnb) ?_
      intro bb hb1 hb2
      have hb : bb = same v (.ref 44) := by
        cases bb
        · exact (hb2 rfl (.inr rfl)).symm
        · exact (hb1 rfl).symm
      subst hb
      clear R7 hb1 hb2
      k_steps
      all_goals try (exfalso; (rename ((_ != _) = true) => hd9); simp at hd9; done)
      (rename Fr g _ _ _ => Fz); (rename News g _ _ _ => Nz)
      exact Turn5.mk Fz (News.tl Nz)
    --E>
    rintro s8 hx9 htk8
    refine hx9 _ ?_; clear hx9
    rintro h8 tk8 nv8 rfl F11 N11
    replace htk8 : tk7 ≤ tk8 := htk8
    have hpl := put_len (its := its) (v := v)
    subst hmm
    refine wpAny_execs_nil ?_
    refine ⟨_, _, _, rfl, F11.ns, ?_, F11.keep, ?_, LedAt.mk (its := put its v) (News.tl N11) q1 q2 q3 q4 (by omega) ?_⟩
    · intro b hb o e
      rw [List.mem_singleton.mp hb] at e ⊢
      rw [eI] at e; cases e
      exact N11.get (List.Mem.head _)
    · intro z h1 h2
      simp [h1, h2]
    · intro y hy
      rcases put_mem hy with hy | rfl
      · exact (r6 _ hy).mono (Nat.le_trans htk4 (Nat.le_trans htk5 (Nat.le_trans htk7 htk8)))
      · exact hv.mono (Nat.le_trans htk7 htk8)
  · rintro h' tk m' hn' ⟨kk, hm, hl9⟩
    refine hl9 _ ?_; clear hl9
    rintro es1 es2 its no nv oT' v0 at1 ta1 x1 tx1 n1 N3 r1 r2 r3 r4 r5 r6
    --F<
    obtain ⟨u, u', rfl⟩ : ∃ u u', m' = fun z => if z = Str.ofString "places" then u else if z = Str.ofString "each_turn" then u' else mE z := ⟨_, _, norm2 hm⟩
    clear hm
    have F₃ : Fr g L' h' _ := ⟨hn', kk, FE.above⟩
    have hlen12 := small_len3 r5 (by assumption)
    have N₃ := N3
    dsimp only [led47] at N₃
    clear FE Ne N3
    subst hmE
    have lst : LenStop := ⟨⟩
    k_steps
    (with_reducible refine Stop.mk ?_)
    (rename News g _ _ _ => Ne)
    have il : Heap.IsList _ vl (List.toArray its) := ⟨_, Ne.get (a := vl) (o := listOf (List.toArray its) _) (by k_mem), rfl, _, rfl⟩
    refine PyProof.Rows.len_list il (by simp; omega) ?_
    clear il
    k_steps
    (with_reducible refine Stop.mk ?_)
    (rename News g _ _ _ => Ne)
    have il : Heap.IsList _ ol (List.toArray its) := ⟨_, Ne.get (a := ol) (o := listOf (List.toArray its) _) (by k_mem), rfl, _, rfl⟩
    refine PyProof.Rows.len_list il (by simp; omega) ?_
    clear il
    k_steps
    (rename Fr g _ _ _ => Fz); (rename News g _ _ _ => Nz)
    exact hret _ _ _ (fun b o e n => Fz.keep b o (kG b o e n)) ⟨⟨_, _, _, _, _, Nz.get (o := potO l _ _ _ _ _) (by k_mem), r2, r3, r4⟩, by simp⟩
    --F>
end

section
theorem calm26 : True := by
  w_top off
  exact True.intro
section
variable {prog : Program} {w : World} {A : Around} {E : Value → Shared → Prop} {env : Env} {s : Shared}
def WEnd (I : Nat → Shared → Prop) (Q : Flow → Shared → Prop) (n : Nat) (f : Flow) (s₃ : Shared) : Prop :=
  match f with
  | .brk => Q .next s₃
  | .ret v => Q (.ret v) s₃
  | _ => ∃ m, m < n ∧ I m s₃
theorem words28 : True := by
  k_with_none
  k_with "my k_room" => (first | exact Nat.le_of_ble_eq_true rfl | (simp only [depth_under_make, depth_under_kw, depth_in1, depth_deeper, depth_caller, recursionLimit] at *; omega))
  k_with "my eval ListComp" => (((fail_if_success (rename LibOk => x9)); refine Stop.out ?_))
  k_with "my exec Assign cons ListComp" => (((fail_if_success (rename LibOk => x9)); refine Stop.out ?_))
  k_with "my mine enter" => ((
  refine wpAny_call ?_
  first
  | (refine' code_defG ?k1 ?k2 ?k3 ?k4 ?k5 ?kA ?kF ?kK ?k6 ?k7 ?k8 ?k9 ?kB ?_ ?c2 ?c3 ?c4 ?c5; (case kA => exact rfl); (case kF => exact rfl); (case kK => first | exact rfl | assumption); (case k1 => k_asm); (case k2 => k_asm); (case k3 => k_asm); (case k4 => k_asm); (case k5 => k_asm); (case k6 => k_is); (case k7 => k_is); (case k8 => k_room); (case k9 => first | exact BindsTo.of_eq rfl | exact binds_K (by k_in) rfl (by k_is) rfl rfl rfl | fail "mine enter: binds"); (case c5 => decide); (case kB => exact locs rfl); (case c2 => exact rfl); (case c3 => exact rfl); (case c4 => exact rfl); k_whole)
  | (refine' code_defCG ?k1 ?k2 ?k3 ?k4 ?k5 ?kA ?kF ?kK ?k6 ?k7 ?k8 ?k9 ?kB ?kD ?_ ?c2 ?c3 ?c4; (case kA => exact rfl); (case kF => exact rfl); (case kK => first | exact rfl | assumption); (case k1 => k_asm); (case k2 => k_asm); (case k3 => k_asm); (case k4 => k_asm); (case k5 => k_asm); (case k6 => k_is); (case k7 => k_is); (case k8 => k_room); (case k9 => first | exact BindsTo.of_eq rfl | exact binds_K (by k_in) rfl (by k_is) rfl rfl rfl | fail "mine enter: binds"); (case kB => exact rfl); (case kD => decide +kernel); (case c2 => exact rfl); (case c3 => exact rfl); (case c4 => exact rfl); k_whole)))
  k_with "my mine dip" => ((k_here; k_dflt (refine' use_dip ?hh ?hd ?hu ?hA ?B ?F ?K ?T ?hcs ?N ?V ?h0 ?hx0 ?hx1 ?hl ?hk ?_; (case hh => exact rfl); (case hA => exact rfl); (case hd => first | exact Nat.le_of_ble_eq_true rfl | (simp only [depth_in1, depth_deeper]; omega)); (case hu => first | exact Nat.le_of_ble_eq_true rfl | (simp only [units_in1, units_deeper]; omega)); (case B => k_asm); (case F => k_asm); (case K => k_asm); (case T => k_asm); (case hcs => first | exact rfl | assumption); (case N => k_asm); (case V => k_updF); (case h0 => assumption); (case hx0 => assumption); (case hx1 => assumption); (case hl => (refine' IntsAt.up ?ha (Fr.keep ?hb); (case hb => k_asm); (case ha => k_asm))); (case hk => decide); k_whole); intro i' t' at' ta' x' tx' n' h' tk' b0 b1 b2 b3 b4 F' N'; (try dsimp only at N'); (try k_sweep)))
  k_with "my call ref" => (first | walk_at "mine dip" | ((with_reducible show wpAny _ _ (call (Value.ref 168) _) _ _ _); refine Stop.out ?_) | ((with_reducible show wpAny _ _ (call (Value.ref 188) _) _ _ _); refine Stop.out ?_) | ((with_reducible show wpAny _ _ (call (Value.ref 224) _) _ _ _); refine Stop.out ?_) | ((with_reducible show wpAny _ _ (call (Value.ref 229) _) _ _ _); refine Stop.out ?_) | ((with_reducible show wpAny _ _ (call (Value.ref 236) _) _ _ _); refine Stop.out ?_) | ((with_reducible show wpAny _ _ (call (Value.ref 77) _) _ _ _); refine Stop.out ?_) | ((with_reducible show wpAny _ _ (call (Value.ref 65) _) _ _ _); refine Stop.out ?_) | ((with_reducible show wpAny _ _ (call (Value.ref 241) _) _ _ _); refine Stop.out ?_) | ((with_reducible show wpAny _ _ (call (Value.ref 246) _) _ _ _); refine Stop.out ?_) | ((with_reducible show wpAny _ _ (call (Value.ref 253) _) _ _ _); refine Stop.out ?_) | ((with_reducible show wpAny _ _ (call (Value.ref 105) _) _ _ _); refine Stop.out ?_))
  k_with "my mine ct" => (((rename Ct _ _ _ _ _ _ _ _ _ _ _ => hCt); k_dflt (refine' use_ct hCt ?hh ?hd ?hu ?hA ?B ?F ?K ?T ?hcs ?hX ?_; (case hh => exact rfl); (case hA => exact rfl); (case hd => first | exact Nat.le_of_ble_eq_true rfl | (simp only [depth_in1, depth_deeper]; omega)); (case hu => first | exact Nat.le_of_ble_eq_true rfl | (simp only [units_in1, units_deeper]; omega)); (case B => k_asm); (case F => k_asm); (case K => k_asm); (case T => k_asm); (case hcs => first | exact rfl | assumption); (case hX => first | exact News.inX (by k_asm) (by k_mem) | assumption | (intro x hx; cases hx)))))
  k_with "my storeName" => ((k_here; k_dflt (first | (refine' stK ?F ?N ?_ ?a ?b; (case F => k_asm); (case N => k_asm); (case a => rfl); (case b => rfl); k_whole; intro h' F' N' kS'; (try k_sweep)) | (refine' stC ?F ?N ?c ?U ?d ?_ ?a ?b; (case a => rfl); (case b => rfl); (case F => k_asm); (case N => k_asm); (case c => rfl); (case U => k_updF); (case d => k_asm); k_whole; intro h' o' F' N' d' kS'; (try dsimp only at N'); (try k_sweep)))))
  k_with "my compareOp Is ref ref" => ((k_here; (with_reducible show wpAny _ _ (compareOp CmpOp.Is (Value.ref _) (Value.ref _)) _ _ _); k_dflt (refine' kto_is ?a ?b ?n ?c ?_; (case a => first | kto_obj | (refine' gr_get ?F ?e; (case F => k_asm); (case e => with_reducible assumption))); (case b => first | kto_obj | (refine' gr_get ?F ?e; (case F => k_asm); (case e => with_reducible assumption))); (case n => first | assumption | exact Ne.symm (by assumption) | kto_ne); (case c => kto_not); k_whole)))
  k_with "my compareOp IsNot ref ref" => ((k_here; (with_reducible show wpAny _ _ (compareOp CmpOp.IsNot (Value.ref _) (Value.ref _)) _ _ _); k_dflt (refine' kto_isnot ?a ?b ?n ?c ?_; (case a => first | kto_obj | (refine' gr_get ?F ?e; (case F => k_asm); (case e => with_reducible assumption))); (case b => first | kto_obj | (refine' gr_get ?F ?e; (case F => k_asm); (case e => with_reducible assumption))); (case n => first | assumption | exact Ne.symm (by assumption) | kto_ne); (case c => kto_not); k_whole)))
  k_with "my compareOp Is int ref" => ((k_here; refine wpAny_is_other (by rfl) (by intro x; cases x) ?_))
  k_with "my compareOp IsNot int ref" => ((k_here; refine wpAny_isNot_other (by rfl) (by intro x; cases x) ?_))
  k_with "my compareOp Is ref int" => ((k_here; refine wpAny_is_other (by rfl) (by intro x; cases x) ?_))
  k_with "my compareOp IsNot ref int" => ((k_here; refine wpAny_isNot_other (by rfl) (by intro x; cases x) ?_))
  k_with "my newTuple" => (((rename RawTup => rt9); refine Stop.out ?_))
  k_with "my execs cons" => (((with_reducible show wpAny _ _ _ _ _ _); k_fold; refine wpAny_execs_cons ?_))
  k_with "my chain47" => (first | (with_reducible assumption) | ((with_reducible refine Nat.lt_trans (by assumption) ?_); walk_at "chain47"))
  k_with "my lt47" => (first | (with_reducible assumption) | (with_reducible exact Nat.lt_add_one _) | (with_reducible exact Nat.lt_trans (Nat.lt_add_one _) (Nat.lt_add_one _)) | ((fail_if_success (fail_if_success (with_reducible refine pkG (by assumption) ?_))); first | (with_reducible exact pk0 (by assumption)) | (with_reducible exact pk1 (by assumption)) | (with_reducible exact pk2 (by assumption)) | (with_reducible exact pk3 (by assumption)) | (with_reducible exact pk4 (by assumption)) | (with_reducible exact pk5 (by assumption)) | (with_reducible exact pk6 (by assumption)) | (with_reducible exact pk7 (by assumption)) | (with_reducible exact pk8 (by assumption)) | (with_reducible exact pk9 (by assumption)) | (with_reducible exact pk10 (by assumption)) | (with_reducible exact pk11 (by assumption)) | (with_reducible exact pk12 (by assumption)) | (with_reducible exact pk13 (by assumption)) | (with_reducible exact pk14 (by assumption)) | (with_reducible exact pk15 (by assumption)) | (with_reducible exact pk16 (by assumption)) | (with_reducible exact pk17 (by assumption)) | (with_reducible exact pk18 (by assumption)) | (with_reducible exact pk19 (by assumption))) | walk_at "chain47" | ((with_reducible refine Nat.lt_trans (Nat.lt_add_one _) ?_); walk_at "chain47") | ((with_reducible refine Nat.lt_trans (Nat.lt_trans (Nat.lt_add_one _) (Nat.lt_add_one _)) ?_); walk_at "chain47"))
  k_with "my in47a" => (first | (with_reducible exact pk0) | (with_reducible exact pk1) | (with_reducible exact pk2) | (with_reducible exact pk3) | (with_reducible exact pk4) | (with_reducible exact pk5) | (with_reducible exact pk6) | (with_reducible exact pk7))
  k_with "my in47b" => (first | (with_reducible exact pk8) | (with_reducible exact pk9) | (with_reducible exact pk10) | (with_reducible exact pk11) | (with_reducible exact pk12) | (with_reducible exact pk13) | (with_reducible exact pk14) | (with_reducible exact pk15))
  k_with "my in47c" => (first | (with_reducible exact pk16) | (with_reducible exact pk17) | (with_reducible exact pk18) | (with_reducible exact pk19) | (with_reducible exact pk20) | (with_reducible exact pk21) | (with_reducible exact pk22) | (with_reducible exact pk23))
  k_with "my in47d" => (first | (with_reducible exact pk24) | (with_reducible exact pk25) | (with_reducible exact pk26) | (with_reducible exact pk27) | (with_reducible exact pk28) | (with_reducible exact pk29) | (with_reducible exact pk30) | (with_reducible exact pk31))
  k_with "my in47e" => (first | (with_reducible exact pk32) | (with_reducible exact pk33) | (with_reducible exact pk34) | (with_reducible exact pk35) | (with_reducible exact pk36) | (with_reducible exact pk37) | (with_reducible exact pk38) | (with_reducible exact pk39))
  k_with "my pk47" => (((fail_if_success (fail_if_success (with_reducible refine pkG (by assumption) ?_))); first | ((fail_if_success (fail_if_success ((with_reducible refine pkI (by assumption) ?_); walk_at "in47a"))); first | (with_reducible exact pk0 (by assumption)) | (with_reducible exact pk1 (by assumption)) | (with_reducible exact pk2 (by assumption)) | (with_reducible exact pk3 (by assumption)) | (with_reducible exact pk4 (by assumption)) | (with_reducible exact pk5 (by assumption)) | (with_reducible exact pk6 (by assumption)) | (with_reducible exact pk7 (by assumption))) | ((fail_if_success (fail_if_success ((with_reducible refine pkI (by assumption) ?_); walk_at "in47b"))); first | (with_reducible exact pk8 (by assumption)) | (with_reducible exact pk9 (by assumption)) | (with_reducible exact pk10 (by assumption)) | (with_reducible exact pk11 (by assumption)) | (with_reducible exact pk12 (by assumption)) | (with_reducible exact pk13 (by assumption)) | (with_reducible exact pk14 (by assumption)) | (with_reducible exact pk15 (by assumption))) | ((fail_if_success (fail_if_success ((with_reducible refine pkI (by assumption) ?_); walk_at "in47c"))); first | (with_reducible exact pk16 (by assumption)) | (with_reducible exact pk17 (by assumption)) | (with_reducible exact pk18 (by assumption)) | (with_reducible exact pk19 (by assumption)) | (with_reducible exact pk20 (by assumption)) | (with_reducible exact pk21 (by assumption)) | (with_reducible exact pk22 (by assumption)) | (with_reducible exact pk23 (by assumption))) | ((fail_if_success (fail_if_success ((with_reducible refine pkI (by assumption) ?_); walk_at "in47d"))); first | (with_reducible exact pk24 (by assumption)) | (with_reducible exact pk25 (by assumption)) | (with_reducible exact pk26 (by assumption)) | (with_reducible exact pk27 (by assumption)) | (with_reducible exact pk28 (by assumption)) | (with_reducible exact pk29 (by assumption)) | (with_reducible exact pk30 (by assumption)) | (with_reducible exact pk31 (by assumption))) | ((fail_if_success (fail_if_success ((with_reducible refine pkI (by assumption) ?_); walk_at "in47e"))); first | (with_reducible exact pk32 (by assumption)) | (with_reducible exact pk33 (by assumption)) | (with_reducible exact pk34 (by assumption)) | (with_reducible exact pk35 (by assumption)) | (with_reducible exact pk36 (by assumption)) | (with_reducible exact pk37 (by assumption)) | (with_reducible exact pk38 (by assumption)) | (with_reducible exact pk39 (by assumption)))))
  k_with "my ne47" => (first | (with_reducible exact Nat.ne_of_lt (by assumption)) | (with_reducible exact Nat.ne_of_gt (by assumption)) | ((with_reducible refine Nat.ne_of_lt ?_); walk_at "pk47") | ((with_reducible refine Nat.ne_of_gt ?_); walk_at "pk47") | ((with_reducible refine Nat.ne_of_gt ?_); (with_reducible refine ltTail ?_ (by assumption)); walk_at "pk47") | ((with_reducible refine Nat.ne_of_lt ?_); (with_reducible refine ltTail ?_ (by assumption)); walk_at "pk47") | ((with_reducible refine Nat.ne_of_lt ?_); walk_at "lt47") | ((with_reducible refine Nat.ne_of_gt ?_); walk_at "lt47") | omega)
  k_with "my k_ne" => ((refine neN ?_; (try dsimp only); walk_at "ne47"))
  k_with "my neR47" => ((refine neN ?_; (try dsimp only); first | ((with_reducible refine Nat.ne_of_gt ?_); first | walk_at "pk47" | walk_at "chain47" | ((with_reducible refine ltTail ?_ (by assumption)); walk_at "pk47")) | k_ne))
  k_with "my k_all" => (first | exact List.forall_mem_nil _ | (refine allLt_ne ?_; (try dsimp only [AllLt]); with_reducible assumption) | (refine' List.forall_mem_cons.mpr ⟨?a, ?b⟩; (case a => k_ne); (case b => k_all)))
  k_with "my k_upd" => (first | (refine' Upd.head ?a; (case a => k_all)) | (refine' Upd.tail ?a ?b; (case a => walk_at "neR47"); (case b => k_upd)))
  k_with "my k_updF" => (first | (refine' UpdF.head ?a; (case a => k_all)) | (refine' UpdF.tail ?a ?b; (case a => walk_at "neR47"); (case b => k_updF)))
  exact True.intro
theorem WhileM {test : Expr} {body : List Stmt} {pos : Pos} {Q : Flow → Shared → Prop} (I : Nat → Shared → Prop) (n : Nat) (h : I n s)
    (turn : ∀ n s E', I n s → wpAny (model prog w) A (isTrue test env (eval test env)) (fun b s₂ => if b = true then wpAny (model prog w) A (execs body env) (WEnd I Q n) E' s₂ else Q .next s₂) E' s) :
    wpAny (model prog w) A (exec (.While test body [] pos) env) Q E s := by
  refine wpAny_While (codeAny_whileLoop I (fun n s hI => wpAny_mono (turn n s _ hI) (fun b s₂ q => ?_) fun _ _ e => e) n h)
  cases b with
  | false => rw [if_neg Bool.false_ne_true] at q ⊢; exact wpAny_execs_nil q
  | true =>
    rw [if_pos rfl] at q ⊢
    refine wpAny_mono q (fun f s₃ r => ?_) fun _ _ e => e
    cases f with
    | next => exact r
    | cont => exact r
    | brk => exact r
    | ret v => exact r
end
theorem Fr.named {h₀ h : Heap} {L : Addr} {m : Str → Option Value} (F : Fr h₀ L h m) : ∃ mm, mm = m ∧ Fr h₀ L h mm := ⟨m, rfl, F⟩
theorem News.tk {h₀ h : Heap} {L : Addr} {l : List (Addr × Obj)} (N : News h₀ L h l) (k : Nat) : News h₀ L h (l.take k) := fun p hp => N p (List.mem_of_mem_take hp)
theorem News.dr {h₀ h : Heap} {L : Addr} {l : List (Addr × Obj)} (N : News h₀ L h l) (k : Nat) : News h₀ L h (l.drop k) := fun p hp => N p (List.mem_of_mem_drop hp)
theorem use_pot {w : World} {mg mb : Str → Option Value} {mean : ExcName → Option Value} {s : Shared} {p l : Addr} {at' : Int} {ta : Tok} {x : Int} {tx : Tok} {n : Nat} {D U : Nat} {f : Addr} {vs : List Value} {Post : Value → Heap → Prop}
    {A A₀ : Around} {cn : Str} {cs : Scope} {a : Addr} {ccd : Value} {cl : List (Str × Addr)} {outer : List Env} {base h₀ : Heap} {L : Addr} {m : Str → Option Value} {Q E : Value → Shared → Prop} {news : List (Addr × Obj)} {g : Obj → List (Addr × Obj)}
    (C : Ct w mg mb mean D U f vs s [p] (fun r h' => PotAt h' p l ∧ Post r h'))
    (hh : A.handled = none) (hd : A.depth ≤ D) (hu : A.units ≤ U) (hA : A.frames = some (envX cn cs L a ccd cl :: outer))
    (B : Below A₀ base outer h₀) (F : Fr h₀ L s.heap m) (K : (hd47.heap_39 w.params).In h₀) (T : Tp mg mb mean h₀) (hcs : cs.kind = .function) (N : News h₀ L s.heap news) (V : UpdF p (potO l at' ta x tx n) news g)
    (ret : ∀ r at' ta x tx n h' tk', 0 ≤ at' → 0 ≤ x → x < 100000 → Fr h₀ L h' m → News h₀ L h' (g (potO l at' ta x tx n)) → Kept [p] s.heap h' → Post r h' → Q r { s with heap := h', toks := tk' }) :
    wpAny (model PySem.Challenge.rw_ok0047_01.row.prog w) A (call (.ref f) vs) Q E s := by
  have hm : (p, potO l at' ta x tx n) ∈ news := by obtain ⟨own, rest, rfl, _⟩ := V.split; exact List.mem_append_right _ (.head _)
  refine use_ct C hh hd hu hA B F K T hcs (News.inX N hm) fun r h' tk' F' k' q => ?_
  obtain ⟨⟨_, _, _, _, _, ho, b0, b1, b2⟩, q⟩ := q
  exact ret r _ _ _ _ _ h' tk' b0 b1 b2 F' (News.hole N V k' ho) k' q
theorem sum_mod : ∀ (ns : List Int), 0 ≤ (ns.map fun k => k.fmod 1009).sum ∧ (ns.map fun k => k.fmod 1009).sum ≤ 1008 * ns.length
  | [] => by simp
  | a :: r => by
    have h1 := sum_mod r
    have h2 := fmod_in a 1009 (by decide)
    simp only [List.map_cons, List.sum_cons, List.length_cons]
    omega
theorem pot_sum (ns : List Int) : 0 ≤ ((ns.take 63).map fun k => k.fmod 1009).sum + 3 ∧ ((ns.take 63).map fun k => k.fmod 1009).sum + 3 < 100000 := by
  have h := sum_mod (ns.take 63)
  have : (ns.take 63).length ≤ 63 := by rw [List.length_take]; exact Nat.min_le_left _ _
  omega
abbrev symD (w : World) (k : Int) (nm : Str) (t1 t2 t3 t4 : Tok) : Obj := dictOf [⟨PyData.keyHash w.params (Str.ofString "number"), .str (Str.ofString "number") t1, .int k t2⟩, ⟨PyData.keyHash w.params (Str.ofString "name"), .str (Str.ofString "name") t3, .str nm t4⟩] 2
def SymO (w : World) (o : Obj) (k : Int) (nm : Str) : Prop := ∃ t1 t2 t3 t4, o = symD w k nm t1 t2 t3 t4
def ledA (L' sl pt du u tl da sa db sb dc sc S : Addr) (op ot odu oS oa ob od osl ow os oc : Obj) : List (Addr × Obj) :=
  [(S, oS), (sc, instObj 38 dc), (dc, od), (sb, instObj 38 db), (db, ob), (sa, instObj 38 da), (da, oa), (tl, ot), (u, instObj 157 du), (du, odu), (pt, op), (sl, osl), (L' + 1 + 1 + 1, ow), (L' + 1 + 1, os), (L' + 1, oc)]
structure Chain (L' sl pt du u tl da sa db sb dc sc S : Nat) : Prop where
  c1 : L' + 1 + 1 + 1 < sl
  c2 : sl < pt
  c3 : pt < du
  c4 : du < u
  c5 : u < tl
  c6 : tl < da
  c7 : da < sa
  c8 : sa < db
  c9 : db < sb
  c10 : sb < dc
  c11 : dc < sc
  c12 : sc < S
def Law1 (w : World) (g : Heap) (L' : Addr) (mm : Str → Option Value) (s s' : Shared) : Prop :=
  ∀ R9 : Prop, (∀ h tk sl pt du u tl da sa db sb dc sc S ll cx lt t1 t2 t3 t4 t5 t6 ws ns c at' ta x tx n oa ob od ow os oc, (s' = { s with heap := h, toks := tk }) → (Fr g L' h (fun z => if z = Str.ofString "unit" then some (.ref u) else mm z)) → (News g L' h (ledA L' sl pt du u tl da sa db sb dc sc S (potO sl at' ta x tx n) (listOf #[] 0) (unitD w ll cx tl lt 0 t1 t2 t3 t4 t5 t6) (listOf #[.ref sa, .ref sb, .ref sc] 0) oa ob od (listOf (List.toArray ws) c) ow os oc)) → (0 ≤ at') → (0 ≤ x) → (x < 100000) → (IntsAre ws ns) → (ns.length ≤ 63) → (SymO w oa 5 (Str.ofString "a")) → (SymO w ob 6 (Str.ofString "b")) → (SymO w od 7 (Str.ofString "c")) → (ow.data = .cell none) → (os.data = .cell (some (.ref S))) → (oc.data = .cell (some (.ref pt))) → (Chain L' sl pt du u tl da sa db sb dc sc S) → R9) → R9
theorem Law1.mk {w : World} {g : Heap} {L' : Addr} {mm m' : Str → Option Value} {s : Shared} {h : Heap} {tk : Nat} {sl pt du u tl da sa db sb dc sc S ll cx lt : Addr} {t1 t2 t3 t4 t5 t6 : Tok} {ws : List Value} {ns : List Int} {c : Nat} {at' : Int} {ta : Tok} {x : Int} {tx : Tok} {n : Nat} {oa ob od ow os oc : Obj}
    (F : Fr g L' h m') (hm : m' = fun z => if z = Str.ofString "unit" then some (.ref u) else mm z)
    (N : News g L' h (ledA L' sl pt du u tl da sa db sb dc sc S (potO sl at' ta x tx n) (listOf #[] 0) (unitD w ll cx tl lt 0 t1 t2 t3 t4 t5 t6) (listOf #[.ref sa, .ref sb, .ref sc] 0) oa ob od (listOf (List.toArray ws) c) ow os oc))
    (a1 : 0 ≤ at') (a2 : 0 ≤ x) (a3 : x < 100000) (a4 : IntsAre ws ns) (a5 : ns.length ≤ 63) (a6 : SymO w oa 5 (Str.ofString "a")) (a7 : SymO w ob 6 (Str.ofString "b")) (a8 : SymO w od 7 (Str.ofString "c"))
    (a9 : ow.data = .cell none) (a10 : os.data = .cell (some (.ref S))) (a11 : oc.data = .cell (some (.ref pt))) (a12 : Chain L' sl pt du u tl da sa db sb dc sc S) : Law1 w g L' mm s { s with heap := h, toks := tk } := by
  subst hm
  exact fun _ k9 => k9 h tk sl pt du u tl da sa db sb dc sc S ll cx lt t1 t2 t3 t4 t5 t6 ws ns c at' ta x tx n oa ob od ow os oc rfl F N a1 a2 a3 a4 a5 a6 a7 a8 a9 a10 a11 a12
theorem law_split1 {w : World} {A : Around} {env : Env} {st : Stmt} {rest : List Stmt} {Q : Flow → Shared → Prop} {E : Value → Shared → Prop} {s : Shared} {g : Heap} {L' : Addr} {mm : Str → Option Value} (_F : Fr g L' s.heap mm)
    (h1 : wpAny (model PySem.Challenge.rw_ok0047_01.row.prog w) A (exec st env) (fun f s' => f = .next ∧ Law1 w g L' mm s s') E s) (h2 : ∀ s', Law1 w g L' mm s s' → wpAny (model PySem.Challenge.rw_ok0047_01.row.prog w) A (execs rest env) Q E s') :
    wpAny (model PySem.Challenge.rw_ok0047_01.row.prog w) A (execs (st :: rest) env) Q E s :=
  wpAny_execs_cons (wpAny_mono h1 (fun f s' h => by obtain ⟨rfl, h⟩ := h; exact h2 s' h) fun _ _ e => e)
/-- a tree whose lists stand in a ledger -/
def TreeIn (led : List (Addr × Obj)) : Nat → Value → List Int → Prop
  | 0, v, fl => ∃ i t, v = .int i t ∧ fl = [i]
  | k + 1, v, fl => (∃ i t, v = .int i t ∧ fl = [i]) ∨ ∃ a n ys fls, v = .ref a ∧ (a, listOf (List.toArray ys) n) ∈ led ∧ ys.length ≤ 3 ∧ fl = fls.flatten ∧ Paired (TreeIn led k) ys fls
theorem TreeIn.mono {led led' : List (Addr × Obj)} (hs : ∀ q ∈ led, q ∈ led') : ∀ {k : Nat} {v : Value} {fl : List Int}, TreeIn led k v fl → TreeIn led' k v fl
  | 0, _, _, x => x
  | k + 1, v, fl, x => by
    rcases x with x | ⟨a, n, ys, fls, e, m, l, q, r⟩
    · exact .inl x
    · exact .inr ⟨a, n, ys, fls, e, hs _ m, l, q, paired_mono (fun _ _ => TreeIn.mono hs) r⟩
theorem tree_led {N : Addr → Prop} {h h₀ : Heap} {L : Addr} (hN : ∀ a, N a → a ≠ L ∧ h₀.get? a = none) : ∀ {k : Nat} {v : Value} {fl : List Int}, TreeN N h k v fl → ∃ rest, News h₀ L h rest ∧ (∀ q ∈ rest, N q.1) ∧ TreeIn rest k v fl
  | 0, _, _, x => ⟨[], News.nil, by simp, x⟩
  | k + 1, v, fl, x => by
    rcases x with x | ⟨a, ys, fls, e, na, ⟨n, ea⟩, l, q, r⟩
    · exact ⟨[], News.nil, by simp, .inl x⟩
    · have key : ∀ {ys : List Value} {fls : List (List Int)}, Paired (TreeN N h k) ys fls → ∃ rest, News h₀ L h rest ∧ (∀ q ∈ rest, N q.1) ∧ Paired (TreeIn rest k) ys fls := by
        intro ys fls r
        induction r with
        | nil => exact ⟨[], News.nil, by simp, .nil⟩
        | cons f _ ih =>
          obtain ⟨r1, n1, m1, t1⟩ := tree_led hN f
          obtain ⟨r2, n2, m2, t2⟩ := ih
          refine ⟨r1 ++ r2, News.app n1 n2, fun q hq => (List.mem_append.mp hq).elim (m1 q) (m2 q), .cons (TreeIn.mono (fun q hq => List.mem_append_left _ hq) t1) (paired_mono (fun _ _ => TreeIn.mono fun q hq => List.mem_append_right _ hq) t2)⟩
      obtain ⟨rest, hr, hm, hp⟩ := key r
      refine ⟨(a, listOf (List.toArray ys) n) :: rest, ?_, ?_, .inr ⟨a, n, ys, fls, e, .head _, l, q, paired_mono (fun _ _ => TreeIn.mono fun q hq => .tail _ hq) hp⟩⟩
      · exact News.cons (fun z hz => by rw [List.mem_singleton.mp hz]; exact ⟨ea, hN a na⟩) hr
      · intro q hq
        rcases List.mem_cons.mp hq with rfl | hq
        · exact na
        · exact hm q hq
theorem tree_of {h h₀ : Heap} {L : Addr} {led : List (Addr × Obj)} (N : News h₀ L h led) : ∀ {k : Nat} {v : Value} {fl : List Int}, TreeIn led k v fl → TreeN (fun a => h₀.get? a = none) h k v fl
  | 0, _, _, x => x
  | k + 1, v, fl, x => by
    rcases x with x | ⟨a, n, ys, fls, e, m, l, q, r⟩
    · exact .inl x
    · exact .inr ⟨a, ys, fls, e, (N _ m).2.2, ⟨n, (N _ m).1⟩, l, q, paired_mono (fun _ _ => tree_of N) r⟩
theorem TreeIn.shape {led : List (Addr × Obj)} {k : Nat} {v : Value} {fl : List Int} (x : TreeIn led (k + 1) v fl) : (∃ i t, v = .int i t ∧ fl = [i]) ∨ ∃ a n ys fls, v = .ref a ∧ (a, listOf (List.toArray ys) n) ∈ led ∧ ys.length ≤ 3 ∧ fl = fls.flatten ∧ Paired (TreeIn led k) ys fls := x
theorem TreeIn.up {led : List (Addr × Obj)} : ∀ {k : Nat} {v : Value} {fl : List Int}, TreeIn led k v fl → TreeIn led (k + 1) v fl
  | 0, _, _, x => .inl x
  | k + 1, v, fl, x => by
    rcases x with x | ⟨a, n, ys, fls, e, m, l, q, r⟩
    · exact .inl x
    · exact .inr ⟨a, n, ys, fls, e, m, l, q, paired_mono (fun _ _ => TreeIn.up) r⟩
/-- the weight of a stack of trees: depth k has weight 4 ^ k -/
def StackW : List Nat → Nat
  | [] => 0
  | k :: r => 4 ^ k + StackW r
theorem StackW.app : ∀ (a b : List Nat), StackW (a ++ b) = StackW a + StackW b
  | [], b => by simp [StackW]
  | k :: r, b => by simp [StackW, StackW.app r b]; omega
theorem StackW.rep (m k : Nat) : StackW (List.replicate m k) = m * 4 ^ k := by
  induction m with
  | zero => simp [StackW]
  | succ m ih => rw [List.replicate_succ, StackW, ih, Nat.succ_mul]; omega
def Law2 (w : World) (g : Heap) (L' sl pt du u tl da sa db sb dc sc S ll cx lt : Addr) (t1 t2 t3 t4 t5 t6 : Tok) (ws : List Value) (c : Nat) (oa ob od ow os oc : Obj) (mm : Str → Option Value) (s s' : Shared) : Prop :=
  ∀ R9 : Prop, (∀ h tk sn r fl rest at' ta x tx n, (s' = { s with heap := h, toks := tk }) → (Fr g L' h (fun z => if z = Str.ofString "tree" then some r else if z = Str.ofString "seen" then some (.ref sn) else mm z)) → (News g L' h ((sn, listOf #[] 0) :: (ledA L' sl pt du u tl da sa db sb dc sc S (potO sl at' ta x tx n) (listOf #[] 0) (unitD w ll cx tl lt 0 t1 t2 t3 t4 t5 t6) (listOf #[.ref sa, .ref sb, .ref sc] 0) oa ob od (listOf (List.toArray ws) c) ow os oc ++ rest))) → (0 ≤ at') → (0 ≤ x) → (x < 100000) → (TreeIn rest 4 r fl) → (fl.length ≤ 81) → (∀ q ∈ rest, q.1 ≠ sn) → (∀ q ∈ rest, q.1 ≠ tl) → (∀ q ∈ rest, q.1 ≠ L' + 1 + 1 + 1) → (@LT.lt Nat instLTNat S sn) → R9) → R9
theorem Law2.mk {w : World} {g : Heap} {L' sl pt du u tl da sa db sb dc sc S ll cx lt : Addr} {t1 t2 t3 t4 t5 t6 : Tok} {ws : List Value} {c : Nat} {oa ob od ow os oc : Obj} {mm m' : Str → Option Value} {s : Shared} {h : Heap} {tk : Nat} {sn : Addr} {r : Value} {fl : List Int} {rest : List (Addr × Obj)} {at' : Int} {ta : Tok} {x : Int} {tx : Tok} {n : Nat}
    (F : Fr g L' h m') (hm : m' = fun z => if z = Str.ofString "tree" then some r else if z = Str.ofString "seen" then some (.ref sn) else mm z)
    (N : News g L' h ((sn, listOf #[] 0) :: (ledA L' sl pt du u tl da sa db sb dc sc S (potO sl at' ta x tx n) (listOf #[] 0) (unitD w ll cx tl lt 0 t1 t2 t3 t4 t5 t6) (listOf #[.ref sa, .ref sb, .ref sc] 0) oa ob od (listOf (List.toArray ws) c) ow os oc ++ rest)))
    (a1 : 0 ≤ at') (a2 : 0 ≤ x) (a3 : x < 100000) (a4 : TreeIn rest 4 r fl) (a5 : fl.length ≤ 81) (a6 : ∀ q ∈ rest, q.1 ≠ sn) (a7 : ∀ q ∈ rest, q.1 ≠ tl) (a8 : ∀ q ∈ rest, q.1 ≠ L' + 1 + 1 + 1) (a9 : @LT.lt Nat instLTNat S sn) :
    Law2 w g L' sl pt du u tl da sa db sb dc sc S ll cx lt t1 t2 t3 t4 t5 t6 ws c oa ob od ow os oc mm s { s with heap := h, toks := tk } := by
  subst hm
  exact fun _ k9 => k9 h tk sn r fl rest at' ta x tx n rfl F N a1 a2 a3 a4 a5 a6 a7 a8 a9
theorem law_split2 {w : World} {A : Around} {env : Env} {st : Stmt} {rest : List Stmt} {Q : Flow → Shared → Prop} {E : Value → Shared → Prop} {s : Shared} {g : Heap} {L' sl pt du u tl da sa db sb dc sc S ll cx lt : Addr} {t1 t2 t3 t4 t5 t6 : Tok} {ws : List Value} {c : Nat} {oa ob od ow os oc : Obj} {mm : Str → Option Value} {op : Obj}
    (_F : Fr g L' s.heap mm) (_N : News g L' s.heap (ledA L' sl pt du u tl da sa db sb dc sc S op (listOf #[] 0) (unitD w ll cx tl lt 0 t1 t2 t3 t4 t5 t6) (listOf #[.ref sa, .ref sb, .ref sc] 0) oa ob od (listOf (List.toArray ws) c) ow os oc))
    (h1 : wpAny (model PySem.Challenge.rw_ok0047_01.row.prog w) A (exec st env) (fun f s' => f = .next ∧ Law2 w g L' sl pt du u tl da sa db sb dc sc S ll cx lt t1 t2 t3 t4 t5 t6 ws c oa ob od ow os oc mm s s') E s)
    (h2 : ∀ s', Law2 w g L' sl pt du u tl da sa db sb dc sc S ll cx lt t1 t2 t3 t4 t5 t6 ws c oa ob od ow os oc mm s s' → wpAny (model PySem.Challenge.rw_ok0047_01.row.prog w) A (execs rest env) Q E s') :
    wpAny (model PySem.Challenge.rw_ok0047_01.row.prog w) A (execs (st :: rest) env) Q E s :=
  wpAny_execs_cons (wpAny_mono h1 (fun f s' h => by obtain ⟨rfl, h⟩ := h; exact h2 s' h) fun _ _ e => e)
theorem off_lt {d : Addr} : ∀ {l : List (Addr × Obj)}, AllLt d l → ∀ q ∈ l, q.1 ≠ d
  | [], _, _, h => by cases h
  | p :: r, hl, q, h => by
    rcases List.mem_cons.mp h with rfl | h
    · exact Nat.ne_of_lt hl.1
    · exact off_lt hl.2 q h
theorem norm2' {P E : Str} {m mE : Str → Option Value} (h : ∀ z, z ≠ P → z ≠ E → m z = mE z) : m = fun z => if z = P then m P else if z = E then m E else mE z := by
  funext z
  by_cases h1 : z = P
  · subst h1; simp
  · by_cases h2 : z = E
    · subst h2; simp [h1]
    · simp [h1, h2, h z h1 h2]
def LoopI (w : World) (g : Heap) (L' sl pt du u tl da sa db sb dc sc S ll cx lt sn : Addr) (t1 t2 t3 t4 t5 t6 : Tok) (ws : List Value) (c : Nat) (oa ob od os oc op : Obj) (r : Value) (fl : List Int) (mb : Str → Option Value) (s : Shared) (n : Nat) (s' : Shared) : Prop :=
  ∀ R9 : Prop, (∀ h tk m' rest its nt vs ps ys ns ny ow v0, (s' = { s with heap := h, toks := tk }) → (Fr g L' h m') → (∀ z, z ≠ Str.ofString "word" → z ≠ Str.ofString "thing" → m' z = mb z) → (News g L' h ((sn, listOf (List.toArray ys) ny) :: (ledA L' sl pt du u tl da sa db sb dc sc S op (listOf (List.toArray its) nt) (unitD w ll cx tl lt 0 t1 t2 t3 t4 t5 t6) (listOf #[.ref sa, .ref sb, .ref sc] 0) oa ob od (listOf (List.toArray ws) c) ow os oc ++ rest))) → (TreeIn rest 4 r fl) → (∀ q ∈ rest, q.1 ≠ sn) → (∀ q ∈ rest, q.1 ≠ tl) → (∀ q ∈ rest, q.1 ≠ L' + 1 + 1 + 1) → (Paired (TupIn rest (.bool true)) vs its) → (Paired (fun v (p : Nat × List Int) => TreeIn rest p.1 v p.2) vs ps) → (IntsAre ys ns) → (ns ++ (ps.reverse.map (·.2)).flatten = fl) → (n = StackW (ps.map (·.1))) → (n ≤ 256) → (ow.data = .cell v0) → R9) → R9
theorem LoopI.mk {w : World} {g : Heap} {L' sl pt du u tl da sa db sb dc sc S ll cx lt sn : Addr} {t1 t2 t3 t4 t5 t6 : Tok} {ws : List Value} {c : Nat} {oa ob od os oc op : Obj} {r : Value} {fl : List Int} {mb : Str → Option Value} {s : Shared} {n : Nat} {h : Heap} {tk : Nat} {m' : Str → Option Value} {rest : List (Addr × Obj)} {its : List Value} {nt : Nat} {vs : List Value} {ps : List (Nat × List Int)} {ys : List Value} {ns : List Int} {ny : Nat} {ow : Obj} {v0 : Option Value}
    (F : Fr g L' h m') (hm : ∀ z, z ≠ Str.ofString "word" → z ≠ Str.ofString "thing" → m' z = mb z)
    (N : News g L' h ((sn, listOf (List.toArray ys) ny) :: (ledA L' sl pt du u tl da sa db sb dc sc S op (listOf (List.toArray its) nt) (unitD w ll cx tl lt 0 t1 t2 t3 t4 t5 t6) (listOf #[.ref sa, .ref sb, .ref sc] 0) oa ob od (listOf (List.toArray ws) c) ow os oc ++ rest))) (hT : TreeIn rest 4 r fl) (o1 : ∀ q ∈ rest, q.1 ≠ sn) (o2 : ∀ q ∈ rest, q.1 ≠ tl) (o3 : ∀ q ∈ rest, q.1 ≠ L' + 1 + 1 + 1)
    (p1 : Paired (TupIn rest (.bool true)) vs its) (p2 : Paired (fun v (p : Nat × List Int) => TreeIn rest p.1 v p.2) vs ps) (hI : IntsAre ys ns) (hc : ns ++ (ps.reverse.map (·.2)).flatten = fl) (hn : n = StackW (ps.map (·.1))) (h256 : n ≤ 256) (dw : ow.data = .cell v0) :
    LoopI w g L' sl pt du u tl da sa db sb dc sc S ll cx lt sn t1 t2 t3 t4 t5 t6 ws c oa ob od os oc op r fl mb s n { s with heap := h, toks := tk } := fun _ k9 => k9 h tk m' rest its nt vs ps ys ns ny ow v0 rfl F hm N hT o1 o2 o3 p1 p2 hI hc hn h256 dw
theorem law_split3 {A : Around} {env : Env} {st : Stmt} {rest' : List Stmt} {Q : Flow → Shared → Prop} {E : Value → Shared → Prop} {w : World} {g : Heap} {L' sl pt du u tl da sa db sb dc sc S ll cx lt sn : Addr} {t1 t2 t3 t4 t5 t6 : Tok} {ws : List Value} {c : Nat} {oa ob od os oc op : Obj} {r : Value} {fl : List Int} {mb : Str → Option Value} {s : Shared} {ow : Obj} {rest : List (Addr × Obj)} {its : List Value} {nt ny : Nat} {ys : List Value}
    (_F : Fr g L' s.heap mb) (_N : News g L' s.heap ((sn, listOf (List.toArray ys) ny) :: (ledA L' sl pt du u tl da sa db sb dc sc S op (listOf (List.toArray its) nt) (unitD w ll cx tl lt 0 t1 t2 t3 t4 t5 t6) (listOf #[.ref sa, .ref sb, .ref sc] 0) oa ob od (listOf (List.toArray ws) c) ow os oc ++ rest)))
    (h1 : wpAny (model PySem.Challenge.rw_ok0047_01.row.prog w) A (exec st env) (fun f s' => f = .next ∧ LoopI w g L' sl pt du u tl da sa db sb dc sc S ll cx lt sn t1 t2 t3 t4 t5 t6 ws c oa ob od os oc op r fl mb s 256 s') E s)
    (h2 : ∀ s', LoopI w g L' sl pt du u tl da sa db sb dc sc S ll cx lt sn t1 t2 t3 t4 t5 t6 ws c oa ob od os oc op r fl mb s 256 s' → wpAny (model PySem.Challenge.rw_ok0047_01.row.prog w) A (execs rest' env) Q E s') :
    wpAny (model PySem.Challenge.rw_ok0047_01.row.prog w) A (execs (st :: rest') env) Q E s :=
  wpAny_execs_cons (wpAny_mono h1 (fun f s' h => by obtain ⟨rfl, h⟩ := h; exact h2 s' h) fun _ _ e => e)
theorem law_split4 {A : Around} {env : Env} {test : Expr} {body : List Stmt} {pos : Pos} {rest' : List Stmt} {Q : Flow → Shared → Prop} {E : Value → Shared → Prop} {w : World} {g : Heap} {L' sl pt du u tl da sa db sb dc sc S ll cx lt sn : Addr} {t1 t2 t3 t4 t5 t6 : Tok} {ws : List Value} {c : Nat} {oa ob od os oc op : Obj} {r : Value} {fl : List Int} {mb : Str → Option Value} {s : Shared} {s3 : Shared} (hL : LoopI w g L' sl pt du u tl da sa db sb dc sc S ll cx lt sn t1 t2 t3 t4 t5 t6 ws c oa ob od os oc op r fl mb s 256 s3)
    (turn : ∀ n s' E', LoopI w g L' sl pt du u tl da sa db sb dc sc S ll cx lt sn t1 t2 t3 t4 t5 t6 ws c oa ob od os oc op r fl mb s n s' → wpAny (model PySem.Challenge.rw_ok0047_01.row.prog w) A (isTrue test env (eval test env)) (fun b s₂ => if b = true then wpAny (model PySem.Challenge.rw_ok0047_01.row.prog w) A (execs body env) (WEnd (LoopI w g L' sl pt du u tl da sa db sb dc sc S ll cx lt sn t1 t2 t3 t4 t5 t6 ws c oa ob od os oc op r fl mb s) (fun f s' => f = .next ∧ LoopI w g L' sl pt du u tl da sa db sb dc sc S ll cx lt sn t1 t2 t3 t4 t5 t6 ws c oa ob od os oc op r fl mb s 0 s') n) E' s₂ else LoopI w g L' sl pt du u tl da sa db sb dc sc S ll cx lt sn t1 t2 t3 t4 t5 t6 ws c oa ob od os oc op r fl mb s 0 s₂) E' s')
    (h2 : ∀ s', LoopI w g L' sl pt du u tl da sa db sb dc sc S ll cx lt sn t1 t2 t3 t4 t5 t6 ws c oa ob od os oc op r fl mb s 0 s' → wpAny (model PySem.Challenge.rw_ok0047_01.row.prog w) A (execs rest' env) Q E s') :
    wpAny (model PySem.Challenge.rw_ok0047_01.row.prog w) A (execs (.While test body [] pos :: rest') env) Q E s3 :=
  wpAny_execs_cons (wpAny_mono (WhileM (Q := fun f s' => f = .next ∧ LoopI w g L' sl pt du u tl da sa db sb dc sc S ll cx lt sn t1 t2 t3 t4 t5 t6 ws c oa ob od os oc op r fl mb s 0 s') (LoopI w g L' sl pt du u tl da sa db sb dc sc S ll cx lt sn t1 t2 t3 t4 t5 t6 ws c oa ob od os oc op r fl mb s) 256 hL fun n s E' h => wpAny_mono (turn n s E' h) (fun b s₂ q => by
    cases b with
    | false => rw [if_neg Bool.false_ne_true] at q ⊢; exact ⟨rfl, q⟩
    | true => exact q) fun _ _ e => e) (fun f s' h => by obtain ⟨rfl, h⟩ := h; exact h2 s' h) fun _ _ e => e)
theorem News.rot {h₀ h : Heap} {L : Addr} {x y : Addr × Obj} {led rest : List (Addr × Obj)} (N : News h₀ L h (x :: y :: (led ++ rest))) : News h₀ L h (y :: (led ++ (x :: rest))) := fun q hq => N q (by
  simp only [List.mem_cons, List.mem_append] at hq ⊢
  rcases hq with h | h | h | h
  · exact .inr (.inl h)
  · exact .inr (.inr (.inl h))
  · exact .inl h
  · exact .inr (.inr (.inr h)))
theorem ne_len {A : Around} {s : Shared} {prog : Program} {w : World} {E Q : Value → Shared → Prop} {l b : Addr} {xs ys : List Value} (hl : s.heap.IsList l (List.toArray xs)) (hb : s.heap.IsList b (List.toArray ys)) (h : xs.length ≠ ys.length) (hu : A.units < cLine) (hq : Q (.bool true) s) :
    wpAny (model prog w) A (compareOp .NotEq (.ref l) (.ref b)) Q E s :=
  PySem.SeqAt.RcNeAt.lists_lengths (A := A) (s := s) hl hb (by simpa using h) hu prog w E Q hq
theorem paired_snoc_r {α β : Type} {F : α → β → Prop} {b : β} : ∀ {r : List β} {l : List α}, Paired F l (r ++ [b]) → ∃ l' a, l = l' ++ [a] ∧ Paired F l' r ∧ F a b
  | [], _, .cons h .nil => ⟨[], _, rfl, .nil, h⟩
  | _ :: _, _, .cons h t => by
    obtain ⟨l', a, e, p, f⟩ := paired_snoc_r t
    exact ⟨_ :: l', a, by rw [e]; rfl, .cons h p, f⟩
theorem paired_snoc_l {α β : Type} {F : α → β → Prop} {a : α} : ∀ {l : List α} {r : List β}, Paired F (l ++ [a]) r → ∃ r' b, r = r' ++ [b] ∧ Paired F l r' ∧ F a b
  | [], _, .cons h .nil => ⟨[], _, rfl, .nil, h⟩
  | _ :: _, _, .cons h t => by
    obtain ⟨l', a, e, p, f⟩ := paired_snoc_l t
    exact ⟨_ :: l', a, by rw [e]; rfl, .cons h p, f⟩
theorem paired_rev {α β : Type} {F : α → β → Prop} {l : List α} {r : List β} (h : Paired F l r) : Paired F l.reverse r.reverse := by
  induction h with
  | nil => exact .nil
  | cons a _ ih => rw [List.reverse_cons, List.reverse_cons]; exact Paired.snoc ih a
theorem paired_app {α β : Type} {F : α → β → Prop} {l l' : List α} {r r' : List β} (h : Paired F l r) (h' : Paired F l' r') : Paired F (l ++ l') (r ++ r') := by
  induction h with
  | nil => exact h'
  | cons a _ ih => exact .cons a ih
theorem paired_tag {led : List (Addr × Obj)} {k : Nat} {ys : List Value} {fls : List (List Int)} (h : Paired (TreeIn led k) ys fls) : Paired (fun v (p : Nat × List Int) => TreeIn led p.1 v p.2) ys (fls.map fun f => (k, f)) := by
  induction h with
  | nil => exact .nil
  | cons a _ ih => exact .cons a ih
theorem StackW.len : ∀ (l : List Nat), l.length ≤ StackW l
  | [] => Nat.le_refl _
  | k :: r => by
    have := StackW.len r
    have h4 := Nat.pow_pos (n := k) (show 0 < 4 by decide)
    simp only [StackW, List.length_cons]; omega
theorem stack_down {ppre : List (Nat × List Int)} {k : Nat} {flv : List Int} {fls : List (List Int)} (hm : fls.length ≤ 3) : StackW ((ppre ++ (fls.map fun f => (k, f)).reverse).map (·.1)) < StackW ((ppre ++ [(k + 1, flv)]).map (·.1)) := by
  have e : (((fls.map fun f => (k, f)).reverse).map (·.1) : List Nat) = List.replicate fls.length k := by
    rw [List.map_reverse, List.map_map]
    have : ((fun (x : Nat × List Int) => x.1) ∘ fun f => (k, f)) = fun _ => k := rfl
    rw [this, List.map_const', List.reverse_replicate]
  rw [List.map_append, List.map_append, StackW.app, StackW.app, e, StackW.rep]
  have h4 := Nat.pow_pos (n := k) (show 0 < 4 by decide)
  have : fls.length * 4 ^ k ≤ 3 * 4 ^ k := Nat.mul_le_mul_right _ hm
  simp only [List.map_cons, List.map_nil, StackW, Nat.pow_succ]
  omega
theorem stack_leaf {ppre : List (Nat × List Int)} {k : Nat} {flv : List Int} : StackW (ppre.map (·.1)) < StackW ((ppre ++ [(k, flv)]).map (·.1)) := by
  have h4 := Nat.pow_pos (n := k) (show 0 < 4 by decide)
  rw [List.map_append, StackW.app]
  simp only [List.map_cons, List.map_nil, StackW]
  omega
theorem tree_case {led : List (Addr × Obj)} {k : Nat} {v : Value} {fl : List Int} (x : TreeIn led k v fl) : (∃ i t, v = .int i t ∧ fl = [i]) ∨ ∃ k' a n ys fls, k = k' + 1 ∧ v = .ref a ∧ (a, listOf (List.toArray ys) n) ∈ led ∧ ys.length ≤ 3 ∧ fl = fls.flatten ∧ Paired (TreeIn led k') ys fls := by
  cases k with
  | zero => exact .inl x
  | succ k => exact x.imp id fun ⟨a, n, ys, fls, h⟩ => ⟨k, a, n, ys, fls, rfl, h⟩
theorem off_app {l r : List (Addr × Obj)} {d : Addr} (a : ∀ q ∈ l, q.1 ≠ d) (b : ∀ q ∈ r, q.1 ≠ d) : ∀ q ∈ l ++ r, q.1 ≠ d := fun q h => (List.mem_append.mp h).elim (a q) (b q)
theorem News.more {h₀ h : Heap} {L a : Addr} {o : Obj} {news : List (Addr × Obj)} (N : News h₀ L h news) (hm : (a, o) ∈ news) : News h₀ L h ((a, o) :: news) := fun q hq => (List.mem_cons.mp hq).elim (fun e => N q (e ▸ hm)) (N q)
theorem tups_led' {N : Addr → Prop} {h h₀ : Heap} {L : Addr} {wv : Value} (hN : ∀ a, N a → a ≠ L ∧ h₀.get? a = none) : ∀ {vs ys : List Value}, Paired (TupR N h wv) vs ys → ∃ rest, News h₀ L h rest ∧ (∀ q ∈ rest, N q.1) ∧ Paired (TupIn rest wv) vs ys
  | _, _, .nil => ⟨[], News.nil, by simp, .nil⟩
  | _, _, .cons (b := y) ⟨a, t, n, e, p, q⟩ r => by
    obtain ⟨rest, hr, hm, hp⟩ := tups_led' hN r
    refine ⟨(a, tupF t _ wv n) :: rest, ?_, ?_, .cons ⟨a, t, n, e, .head _⟩ (paired_mono (fun _ _ => TupIn.mono fun _ h => .tail _ h) hp)⟩
    · exact News.cons (fun z hz => by rw [List.mem_singleton.mp hz]; exact ⟨q, hN a p⟩) hr
    · intro z hz
      rcases List.mem_cons.mp hz with rfl | hz
      · exact p
      · exact hm z hz
theorem off_fresh {h : Heap} {rest : List (Addr × Obj)} {D b : Addr} {o : Obj} (hm : ∀ q ∈ rest, h.get? q.1 = none ∧ q.1 ≠ D) (e : h.get? b = some o) : ∀ q ∈ rest, q.1 ≠ b := fun q hq => by
  rintro rfl; rw [(hm q hq).1] at e; cases e
theorem ne_fresh {h : Heap} {D b : Addr} {o : Obj} (f : h.get? D = none) (e : h.get? b = some o) : D ≠ b := by rintro rfl; rw [f] at e; cases e
theorem cat_down {ms fl : List Int} {ppre : List (Nat × List Int)} {k8 : Nat} {fls : List (List Int)} (h : ms ++ ((ppre ++ [(k8 + 1, fls.flatten)]).reverse.map (·.2)).flatten = fl) : ms ++ ((ppre ++ (fls.map fun f => (k8, f)).reverse).reverse.map (·.2)).flatten = fl := by
  rw [← h]
  simp [List.map_map, Function.comp_def]
def ledP (L' sl pt da sa db sb dc sc S : Addr) (op oS oa ob od osl os oc : Obj) : List (Addr × Obj) :=
  [(S, oS), (sc, instObj 38 dc), (dc, od), (sb, instObj 38 db), (db, ob), (sa, instObj 38 da), (da, oa), (pt, op), (sl, osl), (L' + 1 + 1, os), (L' + 1, oc)]
def Law5 (w : World) (g : Heap) (L' sl pt u da sa db sb dc sc S : Addr) (ws : List Value) (c : Nat) (oa ob od os oc : Obj) (s s' : Shared) : Prop :=
  ∀ R9 : Prop, (∀ h tk (m' : Str → Option Value) at' ta x tx n, (s' = { s with heap := h, toks := tk }) → (Fr g L' h (fun z => if z = Str.ofString "unit" then some (.ref u) else m' z)) → (News g L' h (ledP L' sl pt da sa db sb dc sc S (potO sl at' ta x tx n) (listOf #[.ref sa, .ref sb, .ref sc] 0) oa ob od (listOf (List.toArray ws) c) os oc)) → (0 ≤ at') → (0 ≤ x) → (x < 100000) → R9) → R9
theorem unit_name {m : Str → Option Value} {v : Option Value} (h : m (Str.ofString "unit") = v) : m = fun z => if z = Str.ofString "unit" then v else m z := by
  funext z
  by_cases h1 : z = Str.ofString "unit"
  · subst h1; simp [h]
  · simp [h1]
theorem Law5.mk {w : World} {g : Heap} {L' sl pt u da sa db sb dc sc S : Addr} {ws : List Value} {c : Nat} {oa ob od os oc : Obj} {s : Shared} {h : Heap} {tk : Nat} {m' : Str → Option Value} {at' : Int} {ta : Tok} {x : Int} {tx : Tok} {n : Nat}
    (F : Fr g L' h m') (hu : m' (Str.ofString "unit") = some (.ref u)) (N : News g L' h (ledP L' sl pt da sa db sb dc sc S (potO sl at' ta x tx n) (listOf #[.ref sa, .ref sb, .ref sc] 0) oa ob od (listOf (List.toArray ws) c) os oc)) (a1 : 0 ≤ at') (a2 : 0 ≤ x) (a3 : x < 100000) : Law5 w g L' sl pt u da sa db sb dc sc S ws c oa ob od os oc s { s with heap := h, toks := tk } :=
  fun _ k9 => k9 h tk m' at' ta x tx n rfl (unit_name hu ▸ F) N a1 a2 a3
theorem law_split5 {w : World} {A : Around} {env : Env} {st : Stmt} {rest' : List Stmt} {Q : Flow → Shared → Prop} {E : Value → Shared → Prop} {g : Heap} {L' sl pt u da sa db sb dc sc S : Addr} {ws : List Value} {c : Nat} {oa ob od os oc : Obj} {s : Shared} {led : List (Addr × Obj)} {oS : Obj}
    (_N : News g L' s.heap ((S, oS) :: led))
    (h1 : wpAny (model PySem.Challenge.rw_ok0047_01.row.prog w) A (exec st env) (fun f s' => f = .next ∧ Law5 w g L' sl pt u da sa db sb dc sc S ws c oa ob od os oc s s') E s)
    (h2 : ∀ s', Law5 w g L' sl pt u da sa db sb dc sc S ws c oa ob od os oc s s' → wpAny (model PySem.Challenge.rw_ok0047_01.row.prog w) A (execs rest' env) Q E s') :
    wpAny (model PySem.Challenge.rw_ok0047_01.row.prog w) A (execs (st :: rest') env) Q E s :=
  wpAny_execs_cons (wpAny_mono h1 (fun f s' h => by obtain ⟨rfl, h⟩ := h; exact h2 s' h) fun _ _ e => e)
theorem ints_eq {A : Around} {s : Shared} : ∀ {xs ys : List Value} {ns : List Int}, IntsAre xs ns → IntsAre ys ns → Paired (fun x y => PySem.SeqAt.EqAt A.in1 s x y true) xs ys
  | _, _, _, .nil, .nil => .nil
  | _, _, _, .cons _ _ a, .cons _ _ b => .cons (eq_int _ _ _) (ints_eq a b)
theorem Kept.drop {u : Addr} {X : List Addr} {h h' : Heap} {o : Obj} (k : Kept (u :: X) h h') (e : h.get? u = some o) (e' : h'.get? u = some o) : Kept X h h' := fun b ob eb hb => by
  by_cases q : b = u
  · subst q; rw [e] at eb; cases eb; exact e'
  · exact k b ob eb (by simp [q, hb])
theorem stack_zero {ps : List (Nat × List Int)} (h : 0 = StackW (ps.map (·.1))) : ps = [] := by
  have := StackW.len (ps.map (·.1))
  rw [← h, List.length_map] at this
  exact List.length_eq_zero_iff.mp (Nat.le_zero.mp this)
theorem News.framed {h₀ h h' : Heap} {L I : Addr} {led : List (Addr × Obj)} (N : News h₀ L h led) (hI : ∀ a ∈ led.map (·.1), a ≠ I) (k : ∀ b o, b ≠ L → b ≠ I → h.get? b = some o → h'.get? b = some o) : News h₀ L h' led := fun q hq => ⟨k _ _ (N q hq).2.1 (hI _ (List.mem_map_of_mem hq)) (N q hq).1, (N q hq).2⟩
theorem News.inX2 {h₀ h : Heap} {L : Addr} {news : List (Addr × Obj)} {p p' : Addr} {o o' : Obj} (N : News h₀ L h news) (hm : (p, o) ∈ news) (hm' : (p', o') ∈ news) : ∀ x ∈ [p, p'], h₀.get? x = none ∧ x ≠ L := fun x hx => by
  rcases List.mem_cons.mp hx with e | hx
  · rw [e]; exact ⟨(N _ hm).2.2, (N _ hm).2.1⟩
  · rw [List.mem_singleton.mp hx]; exact ⟨(N _ hm').2.2, (N _ hm').2.1⟩
def JF (w : World) (g : Heap) (L' sl pt u da sa db sb dc sc S : Addr) (ws : List Value) (c : Nat) (oa ob od os oc : Obj) (m : Str → Option Value) (h : Heap) : Prop :=
  (∀ b o, g.get? b = some o → h.get? b = some o) ∧ m (Str.ofString "unit") = some (.ref u) ∧ ∃ at' ta x tx n, News g L' h (ledP L' sl pt da sa db sb dc sc S (potO sl at' ta x tx n) (listOf #[.ref sa, .ref sb, .ref sc] 0) oa ob od (listOf (List.toArray ws) c) os oc) ∧ 0 ≤ at' ∧ 0 ≤ x ∧ x < 100000
abbrev JFof {g h₀ : Heap} {L' : Addr} {m₀ : Str → Option Value} (_ : Fr g L' h₀ m₀) (w : World) (sl pt u da sa db sb dc sc S : Addr) (ws : List Value) (c : Nat) (oa ob od os oc : Obj) : Nat → (Str → Option Value) → Heap → Prop := fun _ m h => JF w g L' sl pt u da sa db sb dc sc S ws c oa ob od os oc m h
theorem JF.frame {w : World} {g : Heap} {L' sl pt u da sa db sb dc sc S I : Addr} {ws : List Value} {c : Nat} {oa ob od os oc : Obj} {m m0 : Str → Option Value} {h h' h1 : Heap} (FE : Fr g L' h1 m0) (hI1 : g.get? I = none) (hAI : ∀ a ∈ [S, sc, dc, sb, db, sa, da, pt, sl, L' + 1 + 1, L' + 1], a ≠ I)
    (j : JF w g L' sl pt u da sa db sb dc sc S ws c oa ob od os oc m h) (k : ∀ b o, b ≠ L' → b ≠ I → h.get? b = some o → h'.get? b = some o) : JF w g L' sl pt u da sa db sb dc sc S ws c oa ob od os oc m h' :=
  let ⟨kk, hu, at', ta, x, tx, n, N, r⟩ := j
  ⟨fun b o e => Fr.ground FE hI1 k e (kk b o e), hu, at', ta, x, tx, n, News.framed N hAI k, r⟩
theorem hAI_mk {h₀ h : Heap} {L I : Addr} {led : List (Addr × Obj)} (N : News h₀ L h led) (hI3 : ∀ b o, h.get? b = some o → b ≠ I) : ∀ a ∈ led.map (·.1), a ≠ I := by
  intro a ha
  obtain ⟨q, hq, rfl⟩ := List.mem_map.mp ha
  exact hI3 _ _ (N q hq).1
theorem Fr.mk' {h₀ h : Heap} {L : Addr} {m : Str → Option Value} (n : h.Ns L m) (k : ∀ b o, h₀.get? b = some o → h.get? b = some o) (a : h₀.objs.size ≤ L) : Fr h₀ L h m := ⟨n, k, a⟩
def SymV (sa sb sc : Addr) (v : Value) (k : Int) : Prop := (v = .ref sa ∧ k = 5) ∨ (v = .ref sb ∧ k = 6) ∨ (v = .ref sc ∧ k = 7)
theorem sym_pick {sa sb sc : Addr} {i : Int} (h0 : 0 ≤ i) (h1 : i < 3) : ∃ v k, [Value.ref sa, .ref sb, .ref sc][i.toNat]? = some v ∧ SymV sa sb sc v k := by
  have : i = 0 ∨ i = 1 ∨ i = 2 := by omega
  rcases this with rfl | rfl | rfl
  · exact ⟨_, 5, rfl, .inl ⟨rfl, rfl⟩⟩
  · exact ⟨_, 6, rfl, .inr (.inl ⟨rfl, rfl⟩)⟩
  · exact ⟨_, 7, rfl, .inr (.inr ⟨rfl, rfl⟩)⟩
theorem News.but' {h₀ h h' : Heap} {L p : Addr} {l : List (Addr × Obj)} (N : News h₀ L h l) (k : Kept [p] h h') (ap : ∀ q ∈ l, q.1 ≠ p) : News h₀ L h' l := fun q hq => ⟨k _ _ (N q hq).1 (by simpa using ap q hq), (N q hq).2⟩
theorem eq_str' {B : Around} {s : Shared} (i : Str) (t u : Tok) : PySem.SeqAt.EqAt B s (.str i t) (.str i u) true := by
  have := PySem.SeqAt.EqAt.str_str (A := B) (s := s) i t i u
  rwa [beq_self_eq_true] at this
theorem eq_tup {A : Around} {s : Shared} {prog : Program} {w : World} {E Q : Value → Shared → Prop} {a b : Addr} {x1 x2 x3 y1 y2 y3 : Value} {n n' : Nat} (ea : s.heap.get? a = some { cls := .type "tuple", data := .seq #[x1, x2, x3] n }) (eb : s.heap.get? b = some { cls := .type "tuple", data := .seq #[y1, y2, y3] n' })
    (h1 : PySem.SeqAt.EqAt A.in1 s x1 y1 true) (h2 : PySem.SeqAt.EqAt A.in1 s x2 y2 true) (h3 : PySem.SeqAt.EqAt A.in1 s x3 y3 true) (hu : A.units < cLine) (hq : Q (.bool true) s) : wpAny (model prog w) A (compareOp .Eq (.ref a) (.ref b)) Q E s := by
  have := PySem.SeqAt.RcAt.tuples (A := A) (s := s) (l := a) (b := b) (items := #[x1, x2, x3]) (items2 := #[y1, y2, y3]) (e := fun _ => true) ⟨_, ea, rfl, _, rfl⟩ ⟨_, eb, rfl, _, rfl⟩ hu ?_
  · have e : ((List.range (min (#[x1, x2, x3] : Array Value).size (#[y1, y2, y3] : Array Value).size)).all (fun _ => true) && (#[x1, x2, x3] : Array Value).size == (#[y1, y2, y3] : Array Value).size) = true := rfl
    rw [e] at this; exact this prog w E Q hq
  · intro j hj1 hj2
    have : j = 0 ∨ j = 1 ∨ j = 2 := by simp at hj1; omega
    rcases this with rfl | rfl | rfl
    · exact h1
    · exact h2
    · exact h3
theorem News.holeL {h₀ h h' : Heap} {L p : Addr} {o o' : Obj} {news : List (Addr × Obj)} {g : Obj → List (Addr × Obj)} (N : News h₀ L h news) (U : UpdF p o news g) (k : Kept [L, p] h h') (e : h'.get? p = some o') : News h₀ L h' (g o') := by
  obtain ⟨own, rest, rfl, hg, h1, h2⟩ := U.split
  rw [hg]
  intro q hq
  have key : q ∈ own ∨ q ∈ rest → h'.get? q.1 = some q.2 ∧ q.1 ≠ L ∧ h₀.get? q.1 = none := fun hq => by
    have hne : q.1 ≠ p := hq.elim (h1 q) (h2 q)
    have z := N q (hq.elim (fun x => List.mem_append_left _ x) fun x => List.mem_append_right _ (.tail _ x))
    exact ⟨k _ _ z.1 (by simp [hne, z.2.1]), z.2⟩
  rcases List.mem_append.mp hq with hq | hq
  · exact key (.inl hq)
  · rcases List.mem_cons.mp hq with rfl | hq
    · exact ⟨e, (N (p, o) (List.mem_append_right _ (.head _))).2⟩
    · exact key (.inr hq)
def nameOf (k : Int) : Str := if k = 5 then Str.ofString "a" else if k = 6 then Str.ofString "b" else Str.ofString "c"
theorem StrsAre.snoc : ∀ {vs : List Value} {ys : List Str} {x : Str} {t : Tok}, StrsAre vs ys → StrsAre (vs ++ [.str x t]) (ys ++ [x])
  | _, _, x, t, .nil => .cons x t .nil
  | _, _, x, t, .cons y u r => .cons y u (StrsAre.snoc r)
abbrev cnt (x : String) (ks : List Int) : Int := countIn (PyData.str (Str.ofString x)) (List.map PyData.str (List.map nameOf ks))
abbrev unlB (ks : List Int) : Bool := ((firstMet (fun i => ks.getD i 0) ks.length).length : Int) == (ks.length : Int)
def allKs : List (List Int) := [[], [5], [6], [7], [5, 5], [5, 6], [5, 7], [6, 5], [6, 6], [6, 7], [7, 5], [7, 6], [7, 7], [5, 5, 5], [5, 5, 6], [5, 5, 7], [5, 6, 5], [5, 6, 6], [5, 6, 7], [5, 7, 5], [5, 7, 6], [5, 7, 7], [6, 5, 5], [6, 5, 6], [6, 5, 7], [6, 6, 5], [6, 6, 6], [6, 6, 7], [6, 7, 5], [6, 7, 6], [6, 7, 7], [7, 5, 5], [7, 5, 6], [7, 5, 7], [7, 6, 5], [7, 6, 6], [7, 6, 7], [7, 7, 5], [7, 7, 6], [7, 7, 7]]
theorem unl_all : ∀ ks ∈ allKs, unlB ks = (decide (cnt "a" ks < 2) && decide (cnt "b" ks < 2) && decide (cnt "c" ks < 2)) := by decide +kernel
theorem in_allKs : ∀ (ks : List Int), ks.length ≤ 3 → (∀ k ∈ ks, k = 5 ∨ k = 6 ∨ k = 7) → ks ∈ allKs
  | [], _, _ => by decide
  | [a], _, h => by rcases h a (by simp) with rfl | rfl | rfl <;> decide
  | [a, b], _, h => by rcases h a (by simp) with rfl | rfl | rfl <;> rcases h b (by simp) with rfl | rfl | rfl <;> decide
  | [a, b, c], _, h => by rcases h a (by simp) with rfl | rfl | rfl <;> rcases h b (by simp) with rfl | rfl | rfl <;> rcases h c (by simp) with rfl | rfl | rfl <;> decide
  | _ :: _ :: _ :: _ :: _, h, _ => by simp at h
theorem sym_in {sa sb sc : Addr} {vs : List Value} {ks : List Int} (h : Paired (SymV sa sb sc) vs ks) : ∀ k ∈ ks, k = 5 ∨ k = 6 ∨ k = 7 := by
  induction h with
  | nil => simp
  | cons a _ ih =>
    intro k hk
    rcases List.mem_cons.mp hk with rfl | hk
    · rcases a with ⟨_, e⟩ | ⟨_, e⟩ | ⟨_, e⟩ <;> simp [e]
    · exact ih k hk
section
variable {ks : List Int} (hU : unlB ks = (decide (cnt "a" ks < 2) && decide (cnt "b" ks < 2) && decide (cnt "c" ks < 2)))
include hU
theorem unl_no1 (a : cnt "a" ks < 2) (b : cnt "b" ks < 2) (h : (unlB ks != decide (cnt "c" ks < 2)) = true) : False := by
  rw [hU, decide_eq_true a, decide_eq_true b] at h
  simp at h
theorem unl_no2 (a : cnt "a" ks < 2) (b : ¬ cnt "b" ks < 2) (h : (unlB ks != decide (cnt "b" ks < 2)) = true) : False := by
  rw [hU, decide_eq_true a, decide_eq_false b] at h
  simp at h
theorem unl_no3 (a : ¬ cnt "a" ks < 2) (h : (unlB ks != decide (cnt "a" ks < 2)) = true) : False := by
  rw [hU, decide_eq_false a] at h
  simp at h
end
def Turn6 (w : World) (g : Heap) (L' sl pt u da sa db sb dc sc S I : Addr) (oI : Obj) (ws : List Value) (c : Nat) (oa ob od os oc : Obj) (s s' : Shared) : Prop :=
  ∀ R9 : Prop, (∀ h tk (m' : Str → Option Value) at' ta x tx n, (s' = { s with heap := h, toks := tk }) → (Fr g L' h (fun z => if z = Str.ofString "unit" then some (.ref u) else m' z)) → (News g L' h ((I, oI) :: ledP L' sl pt da sa db sb dc sc S (potO sl at' ta x tx n) (listOf #[.ref sa, .ref sb, .ref sc] 0) oa ob od (listOf (List.toArray ws) c) os oc)) → (0 ≤ at') → (0 ≤ x) → (x < 100000) → R9) → R9
theorem Turn6.mk {w : World} {g : Heap} {L' sl pt u da sa db sb dc sc S I : Addr} {oI : Obj} {ws : List Value} {c : Nat} {oa ob od os oc : Obj} {s : Shared} {h : Heap} {tk : Nat} {m' : Str → Option Value} {at' : Int} {ta : Tok} {x : Int} {tx : Tok} {n : Nat}
    (F : Fr g L' h m') (hu : m' (Str.ofString "unit") = some (.ref u)) (N : News g L' h ((I, oI) :: ledP L' sl pt da sa db sb dc sc S (potO sl at' ta x tx n) (listOf #[.ref sa, .ref sb, .ref sc] 0) oa ob od (listOf (List.toArray ws) c) os oc)) (a1 : 0 ≤ at') (a2 : 0 ≤ x) (a3 : x < 100000) : Turn6 w g L' sl pt u da sa db sb dc sc S I oI ws c oa ob od os oc s { s with heap := h, toks := tk } :=
  fun _ k9 => k9 h tk m' at' ta x tx n rfl (unit_name hu ▸ F) N a1 a2 a3
theorem law_split6 {w : World} {A : Around} {env : Env} {st : Stmt} {rest' : List Stmt} {Q : Flow → Shared → Prop} {E : Value → Shared → Prop} {g : Heap} {L' sl pt u da sa db sb dc sc S I : Addr} {oI : Obj} {ws : List Value} {c : Nat} {oa ob od os oc : Obj} {s : Shared}
    (h1 : wpAny (model PySem.Challenge.rw_ok0047_01.row.prog w) A (exec st env) (fun f s' => f = .next ∧ Turn6 w g L' sl pt u da sa db sb dc sc S I oI ws c oa ob od os oc s s') E s)
    (h2 : ∀ s', Turn6 w g L' sl pt u da sa db sb dc sc S I oI ws c oa ob od os oc s s' → wpAny (model PySem.Challenge.rw_ok0047_01.row.prog w) A (execs rest' env) Q E s') :
    wpAny (model PySem.Challenge.rw_ok0047_01.row.prog w) A (execs (st :: rest') env) Q E s :=
  wpAny_execs_cons (wpAny_mono h1 (fun f s' h => by obtain ⟨rfl, h⟩ := h; exact h2 s' h) fun _ _ e => e)
theorem flat_pairUp : ∀ {n : Nat} {vs : List Value}, vs.length = 2 * n → flatP (pairUp vs) = vs
  | 0, [], _ => rfl
  | 0, _ :: _, h => by simp at h
  | n + 1, [], h => by simp at h
  | n + 1, [_], h => by simp at h; omega
  | n + 1, x :: y :: r, h => by
    have := flat_pairUp (n := n) (vs := r) (by simp at h; omega)
    simp only [flatP, pairUp, List.flatMap_cons] at this ⊢
    rw [this]; rfl
end

section
theorem calm27 : True := by
  w_top off
  exact True.intro
theorem words29 : True := by
  k_with "my mine ft" => ((k_dflt (refine' use_ct ft_ct ?hh ?hd ?hu ?hA ?B ?F ?K ?T ?hcs ?hX ?_; (case hh => exact rfl); (case hA => exact rfl); (case hd => exact Nat.le_of_ble_eq_true rfl); (case hu => exact Nat.le_of_ble_eq_true rfl); (case B => k_asm); (case F => k_asm); (case K => k_asm); (case T => k_asm); (case hcs => first | exact rfl | assumption); (case hX => intro x hx; cases hx))))
  k_with "my k_ne" => ((refine neN ?_; (try dsimp only); first | (with_reducible exact Apart.ne (by assumption)) | (with_reducible exact (Apart.ne (by assumption)).symm) | walk_at "ne47"))
  k_with "my k_all" => (with_reducible assumption)
  k_with "my exec For" => (refine Stop.out ?_)
  k_with "my exec For Name Call cons nil" => (refine Stop.out ?_)
  k_with "my exec While" => (refine Stop.out ?_)
  k_with "my exec While Compare cons nil" => (refine Stop.out ?_)
  k_with "my call ref cons nil" => (first | ((with_reducible show wpAny _ _ (call (Value.ref 224) _) _ _ _); refine Stop.out ?_) | ((with_reducible show wpAny _ _ (call (Value.ref 229) _) _ _ _); refine Stop.out ?_) | ((with_reducible show wpAny _ _ (call (Value.ref 236) _) _ _ _); refine Stop.out ?_) | ((with_reducible show wpAny _ _ (call (Value.ref 241) _) _ _ _); refine Stop.out ?_) | ((with_reducible show wpAny _ _ (call (Value.ref 246) _) _ _ _); refine Stop.out ?_) | ((with_reducible show wpAny _ _ (call (Value.ref 253) _) _ _ _); refine Stop.out ?_) | ((with_reducible show wpAny _ _ (call (Value.ref 154) _) _ _ _); refine Stop.out ?_) | ((with_reducible show wpAny _ _ (call (Value.ref 140) _) _ _ _); refine Stop.out ?_) | ((with_reducible show wpAny _ _ (call (Value.ref 207) _) _ _ _); refine Stop.out ?_) | ((with_reducible show wpAny _ _ (call (Value.ref 212) _) _ _ _); refine Stop.out ?_))
  k_with "my compareOp NotEq ref ref" => ((k_here; refine Stop.out ?_))
  k_with "my call builtin:list.pop" => ((k_here; refine Stop.out ?_))
  k_with "my call builtin:list.pop nil" => ((k_here; refine Stop.out ?_))
  k_with "my call builtin:list.pop cons nil" => ((k_here; refine Stop.out ?_))
  k_with "my call ref nil" => (((with_reducible show wpAny _ _ (call (Value.ref 140) _) _ _ _); refine Stop.out ?_))
  k_with "my subscriptTail Name Call ref int" => ((k_here; refine Stop.out ?_))
  k_with "my compareOp Eq ref ref" => ((k_here; refine Stop.out ?_))
  k_with "my call builtin:list.count cons nil" => ((k_here; (rename Fr _ _ _ _ => Fc9); (rename News _ _ _ _ => Nc9); (rename StrsAre _ _ => hS9); refine count_list_strs ⟨_, News.get Nc9 (by k_mem), rfl, _, rfl⟩ hS9 ?_))
  k_with "my eval ListComp Name cons" => ((k_here; refine Stop.out ?_))
  k_with "my call builtin:isinstance cons nil" => (first | (with_reducible refine IsiPair.int_list ?_) | ((with_reducible show wpAny _ _ (call _ [Value.ref _, Value.type _]) _ _ _); (rename News _ _ _ _ => Ni9); refine' IsiPair.list_list (News.get Ni9 ?mi9) ?ci9 ?_; (case mi9 => k_mem); (case ci9 => rfl)))
  k_with "my callWith ref cons nil" => ((k_here; k_dflt (refine' callWith_K0 ?k1 ?k2 ?_; (case k1 => k_in); (case k2 => k_is); k_whole)))
  exact True.intro
theorem gen_toks {M : Model} {A : Around} {α : Type} {t : Sem α} {Q : α → Shared → Prop} {E : Value → Shared → Prop} {h : Heap} {g : Array GenState} {d : Drawn} {a b : Nat} {o : OsState} (H : ∀ tk, wpAny M A t Q E ⟨h, g, d, tk, o⟩) : wpAny M A t Q E ⟨h, g, d, a + b, o⟩ := H _
theorem words30 : True := by
  k_with "my execs cons" => (((try dsimp only); (with_reducible refine gen_toks ?_); intro tk9; refine wpAny_execs_cons ?_))
  k_with "my execs cons" => (((try dsimp only); (with_reducible show wpAny _ _ _ _ _ _); k_fold; (try ((with_reducible refine gen_toks ?_); intro tk9)); refine wpAny_execs_cons ?_))
  exact True.intro
set_option maxHeartbeats 8000000 in
theorem law47 : PySem.Challenge.rw_ok0047_01.Holds := hd47 (by
  delta d47 pA27 pB27 pS27 pick
  k_go0
  (all_goals try k_fold)
  (dsimp only [Calls.docDef] at *)
  (rename World => w9); (rename Shared => s9)
  (rename Fr _ _ _ _ => F0)
  (rename (_ = Data.cell _) => dw0)
  obtain ⟨mm, hmm, F0⟩ := Fr.named F0
  refine law_split1 F0 ?_ ?_
  --A<
  · subst hmm
    have lb : LibOk := ⟨⟩
    k_steps
    all_goals try exact True.intro
    (rename Fr _ _ _ _ => Fz); (rename News _ _ _ _ => Nz)
    have N1 := News.tl Nz
    refine Law1.mk (ns := List.take 63 _) Fz rfl (News.app (News.tk N1 7) (News.app (News.tk (News.dr N1 8) 1) (News.app (News.tk (News.dr N1 13) 3) (News.app (News.tk (News.dr N1 18) 1) (News.dr N1 20))))) (by decide) ?_ ?_ (by assumption) ?_ ⟨_, _, _, _, rfl⟩ ⟨_, _, _, _, rfl⟩ ⟨_, _, _, _, rfl⟩ (by assumption) (by assumption) (by assumption) ⟨by omega, by omega, by omega, by omega, by omega, by omega, by omega, by omega, by omega, by omega, by omega, by omega⟩
    · exact (pot_sum _).1
    · exact (pot_sum _).2
    · rw [List.length_take]; exact Nat.min_le_left _ _
  --A>
  rintro s1 hx9
  refine hx9 _ ?_; clear hx9
  rintro h1 tk1 sl pt du u tl da sa db sb dc sc S ll cx lt t1 t2 t3 t4 t5 t6 ws ns c at' ta x tx n oa ob od ow os oc rfl F1 N1 b0 b1 b2 hI hlen hA hB hC dw ds dc' ch
  obtain ⟨z1, z2, z3, z4, z5, z6, z7, z8, z9, z10, z11, z12⟩ := ch
  have cz1 : Apart pt sl := ⟨by omega⟩
  clear F0
  subst hmm
  have N1' := N1
  refine law_split2 F1 N1' ?_ ?_
  all_goals clear N1'
  all_goals dsimp only [ledA] at N1
  --B<
  · k_steps
    (with_reducible refine Stop.mk ?_)
    (rename Fr _ _ _ _ => Fe); (rename News _ _ _ _ => Ne)
    have hIn : IntsAt _ sl := IntsAt.news Ne (by k_mem) hI hlen
    have hPt : PotAt _ pt sl := ⟨_, _, _, _, _, Ne.get (a := pt) (o := potO sl at' ta x tx n) (by k_mem), b0, b1, b2⟩
    refine' use_pot (tree_ct 4 (by decide) _ _ hPt hIn) ?hh ?hd ?hu ?hA ?B ?F ?K ?T ?hcs ?N ?V ?_; (case hh => exact rfl); (case hA => exact rfl); (case hd => exact Nat.le_of_ble_eq_true rfl); (case hu => exact Nat.le_of_ble_eq_true rfl); (case B => k_asm); (case F => exact Fe); (case K => k_asm); (case T => k_asm); (case hcs => exact rfl); (case N => exact Ne); (case V => k_updF)
    rintro r at2 ta2 x2 tx2 n2 h2 tk2 b0 b1 b2 F2 N2 k2 ⟨fl, hT⟩
    have hfl := TreeN.len hT
    obtain ⟨rest, hr, hm, hT'⟩ := tree_led (fun a na => Fr.new Fe na) hT
    have N3 := News.app N2 hr
    simp only [List.cons_append, List.nil_append] at N3
    have off : ∀ b o, Heap.get? _ b = some o → ∀ q ∈ rest, q.1 ≠ b := fun b o e q hq => by rintro rfl; rw [hm q hq] at e; cases e
    have off1 := off _ _ (Ne.get (a := tl) (o := listOf #[] 0) (by k_mem))
    have off2 := off _ _ (Ne.get (o := ow) (by k_mem))
    clear hIn hPt Ne Fe N2 hT hr off
    k_steps
    all_goals try exact True.intro
    (rename Fr _ _ _ _ => Fz); (rename News _ _ _ _ => Nz)
    (rename (@LT.lt _ _ _ _ ∧ _) => zt); clear zt; (rename (@LT.lt _ _ _ _ ∧ _) => zs)
    obtain ⟨g1, _, _, _, _, _, _, _, _, _, _, _, _, _, _, g16⟩ := zs
    exact Law2.mk (rest := rest) Fz rfl (News.tl Nz) (by assumption) (by assumption) (by assumption) hT' (by omega) (off_lt g16) off1 off2 g1
  --B>
  rintro s2 hx9
  refine hx9 _ ?_; clear hx9
  rintro h2 tk2 sn r fl rest at' ta x tx n rfl F2 N2 b0 b1 b2 hT hfl o1 o2 o3 z13
  clear F1 N1
  refine law_split3 (r := r) (fl := fl) F2 N2 ?_ ?_
  --C<
  · dsimp only [ledA, List.cons_append, List.nil_append] at N2
    k_steps
    (with_reducible refine Stop.mk ?_)
    (rename Fr _ _ _ _ => Fe); (rename News _ _ _ _ => Ne)
    refine' use_ct ft_ct ?hh ?hd ?hu ?hA ?B ?F ?K ?T ?hcs ?hX ?_; (case hh => exact rfl); (case hA => exact rfl); (case hd => exact Nat.le_of_ble_eq_true rfl); (case hu => exact Nat.le_of_ble_eq_true rfl); (case B => k_asm); (case F => exact Fe); (case K => k_asm); (case T => k_asm); (case hcs => exact rfl); (case hX => (intro x hx; cases hx))
    rintro r5 h5 tk5 F5 k5 ⟨tt, ttk, tn, rfl, ft, et⟩
    have N5 := News.also (News.all Ne k5) Fe ft et
    have dtt : ∀ b o, Heap.get? _ b = some o → tt ≠ b := fun b o e => by rintro rfl; rw [ft] at e; cases e
    have q1 := dtt _ _ (Ne.get (a := sn) (o := listOf #[] 0) (by k_mem))
    have q2 := dtt _ _ (Ne.get (a := tl) (o := listOf #[] 0) (by k_mem))
    have q3 := dtt _ _ (Ne.get (o := ow) (by k_mem))
    clear Fe Ne k5 et dtt
    k_steps
    (with_reducible refine Stop.mk ?_)
    (rename Fr _ _ _ _ => Fe); (rename News _ _ _ _ => Ne)
    obtain ⟨la, rfl⟩ := News.nm Ne
    have hla : @LT.lt Nat instLTNat tl la := by omega
    refine' use_ct (do_ct (its := []) (vs := [.ref tt]) (Ne.get (a := u) (by k_mem)) (Ne.get (a := du) (o := unitD _ ll cx tl lt 0 t1 t2 t3 t4 t5 t6) (by k_mem)) (Ne.get (a := tl) (o := listOf #[] 0) (by k_mem)) (Ne.get (a := la) (o := listOf #[.ref tt] 0) (by k_mem)) (Nat.ne_of_gt hla) (by simp) (by simp)) ?hh ?hd ?hu ?hA ?B ?F ?K ?T ?hcs ?hX ?_; (case hh => exact rfl); (case hA => exact rfl); (case hd => exact Nat.le_of_ble_eq_true rfl); (case hu => exact Nat.le_of_ble_eq_true rfl); (case B => k_asm); (case F => exact Fe); (case K => k_asm); (case T => k_asm); (case hcs => exact rfl); (case hX => exact News.inX Ne (p := tl) (o := listOf #[] 0) (by k_mem))
    rintro r6 h6 tk6 F6 k6 ⟨rfl, nt6, e6⟩
    have d1 : Apart tt tl := ⟨q2⟩
    have N6 := News.hole (o := listOf #[] 0) Ne (by k_updF) k6 e6
    simp only [List.reverse_cons, List.reverse_nil, List.nil_append] at N6
    clear Ne Fe k6
    k_steps
    all_goals try exact True.intro
    (rename Fr _ _ _ _ => Fz); (rename News _ _ _ _ => Nz)
    exact LoopI.mk (n := 256) (rest := (tt, tupF ttk r (.bool true) tn) :: rest) (vs := [r]) (ps := [(4, fl)]) (ns := []) (ys := []) Fz (fun z _ _ => rfl) (News.rot (News.tl Nz)) (hT.mono fun q hq => .tail _ hq) (List.forall_mem_cons.mpr ⟨q1, o1⟩) (List.forall_mem_cons.mpr ⟨q2, o2⟩) (List.forall_mem_cons.mpr ⟨q3, o3⟩)
      (.cons ⟨tt, ttk, tn, rfl, .head _⟩ .nil) (.cons (hT.mono fun q hq => .tail _ hq) .nil) .nil (by simp) (by rfl) (Nat.le_refl _) (by assumption)
  --C>
  intro s3 hL
  clear N2 F2
  refine law_split4 hL ?_ ?_
  --D<
  · rintro n9 s4 E4 hx9
    refine hx9 _ ?_; clear hx9
    rintro h4 tk4 m4 rest its nt vs ps ys ms ny ow v0 rfl F4 hm4 N4 hT o1 o2 o3 hTu hTr hI9 hcat hn9 h256 dw
    have hm5 := norm2' hm4
    generalize m4 (Str.ofString "word") = uw at hm5
    generalize m4 (Str.ofString "thing") = ut at hm5
    clear hm4 hL
    subst hm5
    dsimp only [ledA, List.cons_append, List.nil_append] at N4
    k_steps
    (with_reducible refine Stop.mk ?_)
    (rename Fr _ _ _ _ => Fe); (rename News _ _ _ _ => Ne)
    have eTl := Ne.get (a := tl) (o := listOf (List.toArray its) nt) (by k_mem)
    have eE := Ne.get (List.Mem.head _)
    have hlv := Paired.length hTu
    have hlp := Paired.length hTr
    have hsw := StackW.len (ps.map (·.1))
    rw [List.length_map] at hsw
    have hit : its.length ≤ 256 := by omega
    have hmy := IntsAre.length hI9
    have hms : ms.length ≤ 81 := by
      have := congrArg List.length hcat
      rw [List.length_append] at this
      omega
    rcases List.eq_nil_or_concat its with rfl | ⟨pre, y, hcat9⟩
    · cases hTu
      cases hTr
      refine ne_lists (xs := []) (ys := []) ⟨_, eTl, rfl, _, rfl⟩ ⟨_, eE, rfl, _, rfl⟩ .nil (Nat.le_of_ble_eq_true rfl) ?_
      clear eTl eE
      k_steps
      all_goals try exact True.intro
      (rename Fr _ _ _ _ => Fz); (rename News _ _ _ _ => Nz)
      exact LoopI.mk (n := 0) (rest := rest) (vs := []) (ps := []) Fz (fun z h1 h2 => by simp [h1, h2]) (News.tl Nz) hT o1 o2 o3 .nil .nil hI9 hcat (by rfl) (by decide) dw
    · rw [List.concat_eq_append] at hcat9
      subst hcat9
      refine ne_len (xs := pre ++ [y]) (ys := []) ⟨_, eTl, rfl, _, rfl⟩ ⟨_, eE, rfl, _, rfl⟩ (by simp) (Nat.le_of_ble_eq_true rfl) ?_
      clear eTl eE
      obtain ⟨vpre, v, rfl, hTu', ⟨ta9, tt9, tn9, rfl, htm⟩⟩ := paired_snoc_r hTu
      obtain ⟨ppre, ⟨k9, flv⟩, rfl, hTr', hTv⟩ := paired_snoc_l hTr
      clear hTu hTr
      have a1 : Apart ta9 sn := ⟨o1 _ htm⟩
      have a2 : Apart ta9 tl := ⟨o2 _ htm⟩
      have a3 : Apart ta9 (_ + 1 + 1 + 1) := ⟨o3 _ htm⟩
      k_steps
      (with_reducible refine Stop.mk ?_)
      (rename Fr _ _ _ _ => Fe); (rename News _ _ _ _ => Ne)
      have hpl : pre.length ≤ 255 := by simp only [List.length_append, List.length_cons, List.length_nil] at hit; omega
      refine kl_pop Fe Ne (p := pre) (y := .ref ta9) (kpa_last _ _) (by k_upd) (by unfold sizeLine; simp; omega) fun h' F5 N5 => ?_
      have N6 := News.more (a := ta9) (o := tupF tt9 v (.bool true) tn9) N5 (by simp [htm])
      clear Fe Ne N5
      rcases tree_case hTv with ⟨i9, t9, rfl, rfl⟩ | ⟨k8, b9, n8, zs, fls, rfl, rfl, hbm, hz3, rfl, hP⟩
      · k_steps
        all_goals try exact True.intro
        (rename Fr _ _ _ _ => Fz); (rename News _ _ _ _ => Nz)
        simp only [List.push_toArray] at Nz
        have hlt : StackW (ppre.map (·.1)) < n9 := by rw [hn9]; exact stack_leaf
        exact ⟨StackW (ppre.map (·.1)), hlt, LoopI.mk (rest := rest) (vs := vpre) (ps := ppre) (ns := ms ++ [i9]) (ys := ys ++ [.int i9 t9]) Fz (fun z h1 h2 => by simp [h1, h2]) (News.tl (News.tl Nz)) hT o1 o2 o3 hTu' hTr' (IntsAre.app hI9 (.cons _ _ .nil)) (by rw [← hcat]; simp) rfl (Nat.le_trans (Nat.le_of_lt hlt) h256) (by assumption)⟩
      · have b1 : Apart b9 sn := ⟨o1 _ hbm⟩
        have b2 : Apart b9 tl := ⟨o2 _ hbm⟩
        have b3 : Apart b9 (_ + 1 + 1 + 1) := ⟨o3 _ hbm⟩
        have N7 := News.more (a := b9) (o := listOf (List.toArray zs) n8) N6 (by simp [hbm])
        clear N6
        k_steps
        all_goals try exact True.intro
        (with_reducible refine Stop.mk ?_)
        refine ListCompJ [] (by with_unfolding_all rfl) (by decide) (by with_unfolding_all rfl) (by decide) (by with_unfolding_all rfl) (by intro _; with_unfolding_all rfl) ?_
        k_steps
        (rename Fr _ _ _ _ => Fe); (rename News _ _ _ _ => Ne)
        refine tupsE (wv := .bool true) (its := zs) (by rfl) ⟨_, Ne.get (a := b9) (o := listOf (List.toArray zs) n8) (by k_mem), rfl, _, rfl⟩ (by unfold sizeLine; omega) ?_ ?_
        · intro C s₃ m₃ v8 E' hv hn hm hK
          have F₃ := Fr.kept Fe hK (by simp)
          have N₃ := News.all Ne hK
          clear Fe Ne
          k_steps
          refine Stop.mk ?_
          walk_at "mine ft"
          rintro r8 h8 tk8 F8 hk8 ⟨c8, t8, n8', rfl, fc, ec⟩
          exact ⟨_, _, rfl, hk8, c8, t8, n8', rfl, fc, ec⟩
        · intro D h8 tk8 ys2 nD hD eD hK hT2
          have F8 := Fr.kept Fe hK (by simp)
          obtain ⟨rest2, hr2, hm2, hT2'⟩ := tups_led' (fun a na => Fr.new Fe na.1) hT2
          have f1 := off_app o1 (off_fresh hm2 (Ne.get (a := sn) (o := listOf (List.toArray ys) ny) (by k_mem)))
          have f2 := off_app o2 (off_fresh hm2 (Ne.get (a := tl) (o := listOf (List.toArray pre) (nt + 1)) (by k_mem)))
          have f3 := off_app o3 (off_fresh hm2 (Ne.get (a := _ + 1 + 1 + 1) (by k_mem)))
          have a8 : Apart D tl := ⟨ne_fresh hD (Ne.get (a := tl) (o := listOf (List.toArray pre) (nt + 1)) (by k_mem))⟩
          have hl2 := Paired.length hT2
          have N8 := News.cons (q := (D, listOf (List.toArray ys2) nD)) (fun z hz => by rw [List.mem_singleton.mp hz]; exact ⟨eD, Fr.new Fe hD⟩) (News.app (News.all Ne hK) hr2)
          simp only [List.cons_append] at N8
          clear Fe Ne hr2 hT2 hK eD
          k_steps
          (with_reducible refine Stop.mk ?_)
          (rename Fr _ _ _ _ => Fe); (rename News _ _ _ _ => Ne)
          refine' use_ct (do_ct (its := pre) (vs := ys2) (Ne.get (a := u) (by k_mem)) (Ne.get (a := du) (o := unitD _ ll cx tl lt 0 t1 t2 t3 t4 t5 t6) (by k_mem)) (Ne.get (a := tl) (o := listOf (List.toArray pre) (nt + 1)) (by k_mem)) (Ne.get (a := D) (o := listOf (List.toArray ys2) nD) (by k_mem)) a8.ne (by omega) (by omega)) ?hh ?hd ?hu ?hA ?B ?F ?K ?T ?hcs ?hX ?_; (case hh => exact rfl); (case hA => exact rfl); (case hd => exact Nat.le_of_ble_eq_true rfl); (case hu => exact Nat.le_of_ble_eq_true rfl); (case B => k_asm); (case F => exact Fe); (case K => k_asm); (case T => k_asm); (case hcs => exact rfl); (case hX => exact News.inX Ne (p := tl) (o := listOf (List.toArray pre) (nt + 1)) (by k_mem))
          rintro r9 h9 tk9 F9 k9 ⟨rfl, nt9, e9⟩
          have N9 := News.hole (o := listOf (List.toArray pre) (nt + 1)) Ne (by k_updF) k9 e9
          clear Ne Fe k9
          k_steps
          all_goals try exact True.intro
          (rename Fr _ _ _ _ => Fz); (rename News _ _ _ _ => Nz)
          have hlp2 := Paired.length hP
          have hlt : StackW ((ppre ++ (fls.map fun f => (k8, f)).reverse).map (·.1)) < n9 := by rw [hn9]; exact stack_down (by omega)
          exact ⟨StackW ((ppre ++ (fls.map fun f => (k8, f)).reverse).map (·.1)), hlt, LoopI.mk (rest := rest ++ rest2) (vs := vpre ++ zs.reverse) (ps := ppre ++ (fls.map fun f => (k8, f)).reverse) (ns := ms) (ys := ys) Fz (fun z h1 h2 => by simp [h1, h2]) (News.tl (News.tl (News.tl (News.tl Nz)))) (hT.mono fun q hq => List.mem_append_left _ hq) f1 f2 f3
            (paired_app (paired_mono (fun _ _ => TupIn.mono fun q hq => List.mem_append_left _ hq) hTu') (paired_rev (paired_mono (fun _ _ => TupIn.mono fun q hq => List.mem_append_right _ hq) hT2')))
            (paired_app (paired_mono (fun _ _ => TreeIn.mono fun q hq => List.mem_append_left _ hq) hTr') (paired_rev (paired_mono (fun _ _ => TreeIn.mono fun q hq => List.mem_append_left _ hq) (paired_tag hP))))
            hI9 (cat_down hcat) rfl (Nat.le_trans (Nat.le_of_lt hlt) h256) (by assumption)⟩
  --D>
  rintro s4 hx9
  refine hx9 _ ?_; clear hx9
  rintro h4 tk4 m4 rest4 its nt vs ps ys ms ny ow v0 rfl F4 hm4 N4 hT4 o1 o2 o3 hTu hTr hI9 hcat hn9 h256 dw
  have hps := stack_zero hn9
  subst hps
  simp only [List.reverse_nil, List.map_nil, List.flatten_nil, List.append_nil] at hcat
  subst hcat
  have hm5 := norm2' hm4
  generalize m4 (Str.ofString "word") = uw at hm5
  generalize m4 (Str.ofString "thing") = ut at hm5
  clear hm4 hL
  subst hm5
  dsimp only [ledA, List.cons_append, List.nil_append] at N4
  have N4' := News.tl N4
  refine law_split5 (sl := sl) (pt := pt) (u := u) (da := da) (sa := sa) (db := db) (sb := sb) (dc := dc) (sc := sc) (ws := ws) (c := c) (oa := oa) (ob := ob) (od := od) (os := os) (oc := oc) N4' ?_ ?_
  all_goals clear N4'
  --E<
  · k_steps
    (with_reducible refine Stop.mk ?_)
    (rename Fr _ _ _ _ => Fe); (rename News _ _ _ _ => Ne)
    have Nr : News _ _ _ rest4 := fun q hq => Ne q (by simp [hq])
    refine' use_ct (flat_ct 4 (by decide) _ _ _ (tree_of Nr hT4)) ?hh ?hd ?hu ?hA ?B ?F ?K ?T ?hcs ?hX ?_; (case hh => exact rfl); (case hA => exact rfl); (case hd => exact Nat.le_of_ble_eq_true rfl); (case hu => exact Nat.le_of_ble_eq_true rfl); (case B => k_asm); (case F => exact Fe); (case K => k_asm); (case T => k_asm); (case hcs => exact rfl); (case hX => (intro x hx; cases hx))
    rintro r5 h5 tk5 F5 k5 ⟨D, zs, rfl, fD, ⟨nD, eD⟩, hZ⟩
    have Np := News.tk Ne 16
    simp only [List.take_succ_cons, List.take_zero] at Np
    have aD : Apart D du := ⟨ne_fresh fD (Ne.get (a := du) (o := unitD _ ll cx tl lt 0 t1 t2 t3 t4 t5 t6) (by k_mem))⟩
    have N5 := News.also (News.all Np k5) Fe fD eD
    clear Fe Ne k5 Nr Np
    k_steps
    (with_reducible refine Stop.mk ?_)
    (rename Fr _ _ _ _ => Fe); (rename News _ _ _ _ => Ne)
    refine ne_lists (xs := ys) (ys := zs) ⟨_, Ne.get (a := sn) (o := listOf (List.toArray ys) ny) (by k_mem), rfl, _, rfl⟩ ⟨_, Ne.get (List.Mem.head _), rfl, _, rfl⟩ (ints_eq hI9 hZ) (Nat.le_of_ble_eq_true rfl) ?_
    k_steps
    (with_reducible refine Stop.mk ?_)
    (rename Fr _ _ _ _ => Fe); (rename News _ _ _ _ => Ne)
    refine' use_ct (vs := [.ref u]) (label_ct (k := 0) (Ne.get (a := u) (by k_mem)) (Ne.get (a := du) (o := unitD _ ll cx tl lt 0 t1 t2 t3 t4 t5 t6) (by k_mem)) (by decide) (by decide)) ?hh ?hd ?hu ?hA ?B ?F ?K ?T ?hcs ?hX ?_; (case hh => exact rfl); (case hA => exact rfl); (case hd => exact Nat.le_of_ble_eq_true rfl); (case hu => exact Nat.le_of_ble_eq_true rfl); (case B => k_asm); (case F => exact Fe); (case K => k_asm); (case T => k_asm); (case hcs => exact rfl); (case hX => exact News.inX2 Ne (p := u) (o := instObj 157 du) (p' := du) (o' := unitD _ ll cx tl lt 0 t1 t2 t3 t4 t5 t6) (by k_mem) (by k_mem))
    rintro r6 h6 tk6 F6 k6 ⟨⟨y0, rfl⟩, eu, u5, u6, ed⟩
    rw [show (0 : Int) + 1 = 1 from rfl] at ed
    have k6' := Kept.drop k6 (Ne.get (a := u) (by k_mem)) eu
    have N6 := News.hole (o := unitD _ ll cx tl lt 0 t1 t2 t3 t4 t5 t6) Ne (by k_updF) k6' ed
    clear Ne Fe k6 k6' eu ed
    k_steps
    (with_reducible refine Stop.mk ?_)
    (rename Fr _ _ _ _ => Fe); (rename News _ _ _ _ => Ne)
    refine' use_ct (vs := [.ref u]) (label_ct (k := 1) (Ne.get (a := u) (by k_mem)) (Ne.get (a := du) (o := unitD _ ll cx tl lt 1 t1 t2 t3 t4 u5 u6) (by k_mem)) (by decide) (by decide)) ?hh ?hd ?hu ?hA ?B ?F ?K ?T ?hcs ?hX ?_; (case hh => exact rfl); (case hA => exact rfl); (case hd => exact Nat.le_of_ble_eq_true rfl); (case hu => exact Nat.le_of_ble_eq_true rfl); (case B => k_asm); (case F => exact Fe); (case K => k_asm); (case T => k_asm); (case hcs => exact rfl); (case hX => exact News.inX2 Ne (p := u) (o := instObj 157 du) (p' := du) (o' := unitD _ ll cx tl lt 1 t1 t2 t3 t4 u5 u6) (by k_mem) (by k_mem))
    rintro r6 h6 tk6 F6 k6 ⟨⟨y1, rfl⟩, eu, v5, v6, ed⟩
    rw [show (1 : Int) + 1 = 2 from rfl] at ed
    have k6' := Kept.drop k6 (Ne.get (a := u) (by k_mem)) eu
    have N6 := News.hole (o := unitD _ ll cx tl lt 1 t1 t2 t3 t4 u5 u6) Ne (by k_updF) k6' ed
    clear Ne Fe k6 k6' eu ed
    k_steps
    (with_reducible refine Stop.mk ?_)
    (rename Fr _ _ _ _ => Fe); (rename News _ _ _ _ => Ne)
    refine' use_ct (vs := [.ref u]) (label_ct (k := 2) (Ne.get (a := u) (by k_mem)) (Ne.get (a := du) (o := unitD _ ll cx tl lt 2 t1 t2 t3 t4 v5 v6) (by k_mem)) (by decide) (by decide)) ?hh ?hd ?hu ?hA ?B ?F ?K ?T ?hcs ?hX ?_; (case hh => exact rfl); (case hA => exact rfl); (case hd => exact Nat.le_of_ble_eq_true rfl); (case hu => exact Nat.le_of_ble_eq_true rfl); (case B => k_asm); (case F => exact Fe); (case K => k_asm); (case T => k_asm); (case hcs => exact rfl); (case hX => exact News.inX2 Ne (p := u) (o := instObj 157 du) (p' := du) (o' := unitD _ ll cx tl lt 2 t1 t2 t3 t4 v5 v6) (by k_mem) (by k_mem))
    rintro r6 h6 tk6 F6 k6 ⟨⟨y2, rfl⟩, eu, x5, x6, ed⟩
    rw [show (2 : Int) + 1 = 3 from rfl] at ed
    have k6' := Kept.drop k6 (Ne.get (a := u) (by k_mem)) eu
    have N6 := News.hole (o := unitD _ ll cx tl lt 2 t1 t2 t3 t4 v5 v6) Ne (by k_updF) k6' ed
    clear Ne Fe k6 k6' eu ed
    k_steps
    (with_reducible refine Stop.mk ?_)
    (rename Fr _ _ _ _ => Fe); (rename News _ _ _ _ => Ne)
    refine ne_lists (xs := [.int 0 y0, .int 1 y1, .int 2 y2]) (ys := [.int 0 _, .int 1 _, .int 2 _]) ⟨_, Ne.get (List.Mem.tail _ (List.Mem.head _)), rfl, _, rfl⟩ ⟨_, Ne.get (List.Mem.head _), rfl, _, rfl⟩ (ints_eq (.cons _ _ (.cons _ _ (.cons _ _ .nil))) (.cons _ _ (.cons _ _ (.cons _ _ .nil)))) (Nat.le_of_ble_eq_true rfl) ?_
    k_steps
    all_goals try exact True.intro
    (rename Fr _ _ _ _ => Fz); (rename News _ _ _ _ => Nz)
    exact Law5.mk Fz (by with_unfolding_all rfl) (News.app (News.tk (News.dr Nz 4) 7) (News.app (News.tk (News.dr Nz 14) 2) (News.dr Nz 17))) b0 b1 b2
  --E>
  clear N4 F4 hT4 o1 o2 o3 hTu hTr
  rintro s5 hx9
  refine hx9 _ ?_; clear hx9
  rintro h5 tk5 m5 at' ta x tx n rfl F5 N5 b0 b1 b2
  obtain ⟨p1, p2, p3, p4, rfl⟩ := hA
  obtain ⟨p5, p6, p7, p8, rfl⟩ := hB
  obtain ⟨p9, p10, p11, p12, rfl⟩ := hC
  dsimp only [ledP] at N5
  k_steps
  (with_reducible refine Stop.mk ?_)
  refine ForJ (by with_unfolding_all rfl) (by with_unfolding_all rfl) (by intro _; with_unfolding_all rfl) ?_
  k_steps
  (rename Fr _ _ _ _ => Fe); (rename News _ _ _ _ => Ne); (rename IsRange _ _ _ _ _ _ _ _ => hR)
  obtain ⟨mE, I, hmE, hId, hI1, hI2, hI3, FE⟩ := Fr.name Fe
  clear Fe
  have hAI := hAI_mk Ne hI3
  refine forRange (i := 4) (fun _ m h => JF w9 s9.heap s9.heap.objs.size sl pt u da sa db sb dc sc S ws c (symD w9 5 (Str.ofString "a") p1 p2 p3 p4) (symD w9 6 (Str.ofString "b") p5 p6 p7 p8) (symD w9 7 (Str.ofString "c") p9 p10 p11 p12) os oc m h) hId (by rfl) hR (by decide) (by decide) FE.ns ?_ ?_ ?_ ?_
  · intro h k
    exact ⟨fun b o e => k b o (FE.keep b o e), by rw [hmE]; with_unfolding_all rfl, at', ta, x, tx, n, fun q hq => ⟨k _ _ (Ne q hq).1, (Ne q hq).2⟩, b0, b1, b2⟩
  · intro i m h h' j k
    exact JF.frame FE hI1 hAI j k
  --H<
  · rintro j tj m₁ s₃ E' hj ⟨kk, hu, at1, ta1, x1, tx1, n1, N3, b0, b1, b2⟩ hn' ⟨oI, eI⟩ hs3
    have e5 := unit_name hu
    rw [e5] at hn'
    have F₃ := Fr.mk' hn' kk FE.above
    have N₃ := News.cons (q := (I, oI)) (fun q hq => by rw [List.mem_singleton.mp hq]; exact ⟨eI, hI2, hI1⟩) N3
    dsimp only [ledP] at N₃
    have i1 : Apart pt I := ⟨hAI pt (by simp)⟩
    have y1 : sa ≠ sb := Nat.ne_of_lt (Nat.lt_trans z8 z9)
    have y3 : sb ≠ sc := Nat.ne_of_lt (Nat.lt_trans z10 z11)
    have y2 : sa ≠ sc := Nat.ne_of_lt (Nat.lt_trans (Nat.lt_trans z8 z9) (Nat.lt_trans z10 z11))
    clear FE Ne N3 hn' hAI e5
    subst hmE
    k_steps
    (with_reducible refine Stop.mk ?_)
    (rename Fr _ _ _ _ => Fe); (rename News _ _ _ _ => Ne)
    have hIn : IntsAt _ sl := IntsAt.news Ne (by k_mem) hI hlen
    have hPt : PotAt _ pt sl := ⟨_, _, _, _, _, Ne.get (a := pt) (o := potO sl _ _ _ _ _) (by k_mem), b0, b1, b2⟩
    have hSy : SymsAt w9 _ S sa sb sc := ⟨0, Ne.get (a := S) (o := listOf #[.ref sa, .ref sb, .ref sc] 0) (by k_mem), ⟨da, p1, p2, p3, p4, Ne.get (by k_mem), Ne.get (by k_mem)⟩, ⟨db, p5, p6, p7, p8, Ne.get (by k_mem), Ne.get (by k_mem)⟩, ⟨dc, p9, p10, p11, p12, Ne.get (by k_mem), Ne.get (by k_mem)⟩, y1, y2, y3⟩
    clear b0 b1 b2
    refine' use_pot (body_ct (un := u) hPt hIn) ?hh ?hd ?hu ?hA ?B ?F ?K ?T ?hcs ?N ?V ?_; (case hh => exact rfl); (case hA => exact rfl); (case hd => exact Nat.le_of_ble_eq_true rfl); (case hu => exact Nat.le_of_ble_eq_true rfl); (case B => k_asm); (case F => exact Fe); (case K => k_asm); (case T => k_asm); (case hcs => exact rfl); (case N => exact Ne); (case V => k_updF)
    rintro r6 at2 ta2 x2 tx2 n2 h6 tk6 b0 b1 b2 F6 N6 _ rfl
    clear hIn hPt hSy Ne Fe
    k_steps
    (with_reducible refine Stop.mk ?_)
    (rename Fr _ _ _ _ => Fe); (rename News _ _ _ _ => Ne)
    have hIn : IntsAt _ sl := IntsAt.news Ne (by k_mem) hI hlen
    have hPt : PotAt _ pt sl := ⟨_, _, _, _, _, Ne.get (a := pt) (o := potO sl _ _ _ _ _) (by k_mem), b0, b1, b2⟩
    have hSy : SymsAt w9 _ S sa sb sc := ⟨0, Ne.get (a := S) (o := listOf #[.ref sa, .ref sb, .ref sc] 0) (by k_mem), ⟨da, p1, p2, p3, p4, Ne.get (by k_mem), Ne.get (by k_mem)⟩, ⟨db, p5, p6, p7, p8, Ne.get (by k_mem), Ne.get (by k_mem)⟩, ⟨dc, p9, p10, p11, p12, Ne.get (by k_mem), Ne.get (by k_mem)⟩, y1, y2, y3⟩
    clear b0 b1 b2
    refine' use_pot (store_ct hPt hIn hSy) ?hh ?hd ?hu ?hA ?B ?F ?K ?T ?hcs ?N ?V ?_; (case hh => exact rfl); (case hA => exact rfl); (case hd => exact Nat.le_of_ble_eq_true rfl); (case hu => exact Nat.le_of_ble_eq_true rfl); (case B => k_asm); (case F => exact Fe); (case K => k_asm); (case T => k_asm); (case hcs => exact rfl); (case N => exact Ne); (case V => k_updF)
    rintro r6 at2 ta2 x2 tx2 n2 h6 tk6 b0 b1 b2 F6 N6 _ rfl
    clear hIn hPt hSy Ne Fe
    k_steps
    (with_reducible refine Stop.mk ?_)
    (rename Fr _ _ _ _ => Fe); (rename News _ _ _ _ => Ne)
    have hIn : IntsAt _ sl := IntsAt.news Ne (by k_mem) hI hlen
    have hPt : PotAt _ pt sl := ⟨_, _, _, _, _, Ne.get (a := pt) (o := potO sl _ _ _ _ _) (by k_mem), b0, b1, b2⟩
    have hSy : SymsAt w9 _ S sa sb sc := ⟨0, Ne.get (a := S) (o := listOf #[.ref sa, .ref sb, .ref sc] 0) (by k_mem), ⟨da, p1, p2, p3, p4, Ne.get (by k_mem), Ne.get (by k_mem)⟩, ⟨db, p5, p6, p7, p8, Ne.get (by k_mem), Ne.get (by k_mem)⟩, ⟨dc, p9, p10, p11, p12, Ne.get (by k_mem), Ne.get (by k_mem)⟩, y1, y2, y3⟩
    clear b0 b1 b2
    refine' use_pot (bind_ct hPt hIn hSy) ?hh ?hd ?hu ?hA ?B ?F ?K ?T ?hcs ?N ?V ?_; (case hh => exact rfl); (case hA => exact rfl); (case hd => exact Nat.le_of_ble_eq_true rfl); (case hu => exact Nat.le_of_ble_eq_true rfl); (case B => k_asm); (case F => exact Fe); (case K => k_asm); (case T => k_asm); (case hcs => exact rfl); (case N => exact Ne); (case V => k_updF)
    rintro r6 at2 ta2 x2 tx2 n2 h6 tk6 b0 b1 b2 F6 N6 _ rfl
    clear hIn hPt hSy Ne Fe
    k_steps
    (with_reducible refine Stop.mk ?_)
    refine Assign_ListCompJ [pt] (by with_unfolding_all rfl) (by with_unfolding_all rfl) (by decide) (by with_unfolding_all rfl) (by decide) (by with_unfolding_all rfl) (by with_unfolding_all rfl) (by with_unfolding_all rfl) ?_ (by intro _; with_unfolding_all rfl) ?_
    · show ¬ s9.heap.objs.size ∈ [pt]
      simp only [List.mem_singleton]; k_ne
    k_steps
    (with_reducible refine Stop.mk ?_)
    (rename Fr _ _ _ _ => Fe); (rename News _ _ _ _ => Ne)
    have hIn : IntsAt _ sl := IntsAt.news Ne (by k_mem) hI hlen
    have hPt : PotAt _ pt sl := ⟨_, _, _, _, _, Ne.get (a := pt) (o := potO sl _ _ _ _ _) (by k_mem), b0, b1, b2⟩
    clear b0 b1 b2
    refine' use_pot (dip_ct hPt hIn (by decide)) ?hh ?hd ?hu ?hA ?B ?F ?K ?T ?hcs ?N ?V ?_; (case hh => exact rfl); (case hA => exact rfl); (case hd => exact Nat.le_of_ble_eq_true rfl); (case hu => exact Nat.le_of_ble_eq_true rfl); (case B => k_asm); (case F => exact Fe); (case K => k_asm); (case T => k_asm); (case hcs => exact rfl); (case N => exact Ne); (case V => k_updF)
    rintro r6 at2 ta2 x2 tx2 n2 h6 tk6 b0 b1 b2 F6 N6 _ ⟨i4, t4', rfl, g0, g1⟩
    clear hIn hPt Ne Fe
    k_steps
    (rename Fr _ _ _ _ => Fe); (rename News _ _ _ _ => Ne); (rename IsRange _ _ _ _ _ _ _ _ => hR)
    have hXp := News.inX Ne (p := pt) (o := potO sl _ _ _ _ _) (by k_mem)
    have ep := Ne.get (a := pt) (o := potO sl at2 ta2 x2 tx2 n2) (by k_mem)
    refine rangeA [pt] (fun N i ys h => PotAt h pt sl ∧ ys.length = i ∧ ∃ ks, Paired (SymV sa sb sc) ys ks) (fun a => a = pt) (by rfl) hR g0 (by omega) (alive1 ep) (by rintro b rfl; exact ⟨_, ep⟩) Fe.ns ?_ ?_ ?_ ?_ ?_
    · rintro q; exact (hXp _ (List.Mem.head _)).2 q.symm
    · exact fun N h k => ⟨⟨_, _, _, _, _, k _ _ ep, b0, b1, b2⟩, rfl, [], .nil⟩
    · rintro N N' i ys h h' ⟨a, e, ks, b⟩ c d
      exact ⟨a.of fun o e => d pt o (.inr rfl) e, e, ks, b⟩
    · rintro C N j2 tj2 ys s6 m6 hj2 ⟨hP, e, ks, hF⟩ hn6 hm6 hC hK hN hNX E6
      refine wpAny_tests_nil ?_
      rw [if_pos rfl]
      have F₃ := Fr.kept Fe hK hXp
      have N₃ := News.cons (News.one Ne hK (a := S) (o := listOf #[.ref sa, .ref sb, .ref sc] 0) (by k_mem) (by simp only [List.mem_singleton]; k_ne)) (News.cons (News.one Ne hK (a := sl) (o := listOf (List.toArray ws) c) (by k_mem) (by simp only [List.mem_singleton]; k_ne)) (News.cons (News.one Ne hK (a := s9.heap.objs.size + 1 + 1) (o := os) (by k_mem) (by simp only [List.mem_singleton]; k_ne)) (News.one Ne hK (a := s9.heap.objs.size + 1) (o := oc) (by k_mem) (by simp only [List.mem_singleton]; k_ne))))
      clear Fe Ne
      k_steps
      (with_reducible refine Stop.mk ?_)
      (rename News _ _ _ _ => Ne)
      have hIn : IntsAt _ sl := IntsAt.news Ne (by k_mem) hI hlen
      (rename Fr _ _ _ _ => Fe)
      refine' use_ct (dip_ct (s := { heap := s6.heap, gens := s6.gens, drawn := s6.drawn, toks := s6.toks + 1, os := s6.os }) (k := 3) hP hIn (by decide)) ?hh ?hd ?hu ?hA ?B ?F ?K ?T ?hcs ?hX ?_; (case hh => exact rfl); (case hA => exact rfl); (case hd => exact Nat.le_of_ble_eq_true rfl); (case hu => exact Nat.le_of_ble_eq_true rfl); (case B => k_asm); (case F => exact Fe); (case K => k_asm); (case T => k_asm); (case hcs => exact rfl); (case hX => exact hXp)
      rintro r7 h7 tk7 F7 hk7 ⟨hP7, i7, t7, rfl, w0, w1⟩
      obtain ⟨v7, k7, hv7, hs7⟩ := sym_pick (sa := sa) (sb := sb) (sc := sc) w0 w1
      have eS7 := hk7 _ _ (Ne.get (a := S) (o := listOf #[.ref sa, .ref sb, .ref sc] 0) (by k_mem)) (by simp only [List.mem_singleton]; k_ne)
      clear Ne Fe hIn
      k_steps
      (with_reducible refine Stop.mk ?_)
      refine item_any (vs := [.ref sa, .ref sb, .ref sc]) ⟨_, eS7, rfl, _, rfl⟩ w0 (by omega) hv7 ?_ (by with_unfolding_all rfl)
      exact ⟨_, _, rfl, hk7, hP7, by simp [e], _, Paired.snoc hF hs7⟩
    · intro D h' tk ys hD ⟨nD, eD⟩ hlen' ⟨hP, e, ks, hF⟩ hns hK
      have nD' := Fr.new Fe hD
      have aD : Apart D pt := ⟨ne_fresh hD ep⟩
      have eI9 := Ne.get (a := I) (o := oI) (by k_mem)
      have aDI : Apart D I := ⟨ne_fresh hD eI9⟩
      obtain ⟨at3, ta3, x3, tx3, n3, ep3, b0, b1, b2⟩ := hP
      have F₄ := Fr.assign Fe hns hK hXp
      have N₄ := News.holeL (o := potO sl at2 ta2 x2 tx2 n2) Ne (by k_updF) hK ep3
      have N₅ := News.cons (q := (D, listOf (List.toArray ys) nD)) (fun z hz => by rw [List.mem_singleton.mp hz]; exact ⟨eD, nD'⟩) N₄
      have hys : ys.length ≤ 3 := by omega
      clear Fe Ne hns hK hlen' hR ep hXp N₄ e
      dsimp only
      k_steps
      (with_reducible refine Stop.mk ?_)
      refine Assign_ListCompJ [] (by with_unfolding_all rfl) (by with_unfolding_all rfl) (by decide) (by with_unfolding_all rfl) (by decide) (by with_unfolding_all rfl) (by with_unfolding_all rfl) (by with_unfolding_all rfl) (by simp) (by intro _; with_unfolding_all rfl) ?_
      k_steps
      (rename Fr _ _ _ _ => Fe); (rename News _ _ _ _ => Ne)
      have hlk := Paired.length hF
      refine listA [] (fun N i zs h => StrsAre zs ((ks.take i).map nameOf)) (fun _ => False) (by rfl) ⟨_, Ne.get (a := D) (o := listOf (List.toArray ys) nD) (by k_mem), rfl, _, rfl⟩ (by simp) (by unfold sizeLine; omega) (by simp) (by simp) Fe.ns (by simp) ?_ ?_ ?_ ?_
      · intro N h k; exact .nil
      · intro N N' i ys h h' a b c; exact a
      · intro C N j2 v zs s6 m6 hv hJ hn6 hm6 hC hK hN hNX E6
        refine wpAny_tests_nil ?_
        rw [if_pos rfl]
        obtain ⟨k, hk, hs⟩ := Paired.get hF hv
        have F₃ := Fr.kept Fe hK (by simp)
        have N₃ := News.all Ne hK
        clear Fe Ne
        have key : nameOf k = nameOf k := rfl
        rcases hs with ⟨rfl, rfl⟩ | ⟨rfl, rfl⟩ | ⟨rfl, rfl⟩
        all_goals (
          k_steps
          · exact Kept.refl
          · show StrsAre _ ((ks.take (j2 + 1)).map nameOf)
            rw [List.take_add_one, hk, List.map_append]
            exact StrsAre.snoc hJ)
      · rintro D2 h8 tk8 zs hD2 ⟨nD2, eD2⟩ hlen2 hJ hns hK
        have nD2' := Fr.new Fe hD2
        have F₄ := Fr.assign Fe hns hK (by simp)
        have N₅ := News.cons (q := (D2, listOf (List.toArray zs) nD2)) (fun z hz => by rw [List.mem_singleton.mp hz]; exact ⟨eD2, nD2'⟩) (News.but Ne hK)
        have aD2 : Apart D2 pt := ⟨ne_fresh hD2 (Ne.get (a := pt) (by k_mem))⟩
        have aD2I : Apart D2 I := ⟨ne_fresh hD2 (Ne.get (a := I) (by k_mem))⟩
        have hJ' : StrsAre zs (ks.map nameOf) := by
          have : List.take ys.length ks = ks := by rw [hlk]; exact List.take_length
          rwa [this] at hJ
        have hU := unl_all ks (in_allKs ks (by omega) (sym_in hF))
        clear Fe Ne hns hK hJ
        dsimp only
        refine law_split6 (g := s9.heap) (L' := s9.heap.objs.size) (sl := sl) (pt := pt) (u := u) (da := da) (sa := sa) (db := db) (sb := sb) (dc := dc) (sc := sc) (S := S) (I := I) (oI := oI) (ws := ws) (c := c) (oa := symD w9 5 (Str.ofString "a") p1 p2 p3 p4) (ob := symD w9 6 (Str.ofString "b") p5 p6 p7 p8) (od := symD w9 7 (Str.ofString "c") p9 p10 p11 p12) (os := os) (oc := oc) ?_ ?_
        --J<
        · k_steps
          (with_reducible refine Stop.mk ?_)
          (rename Fr _ _ _ _ => Fe); (rename News _ _ _ _ => Ne)
          have hSI : Paired (SymIn w9 _) ys ks := paired_mono (fun v k hv => by
            rcases hv with ⟨rfl, rfl⟩ | ⟨rfl, rfl⟩ | ⟨rfl, rfl⟩
            · exact ⟨sa, _, rfl, da, p1, p2, p3, p4, Ne.get (by k_mem), Ne.get (by k_mem)⟩
            · exact ⟨sb, _, rfl, db, p5, p6, p7, p8, Ne.get (by k_mem), Ne.get (by k_mem)⟩
            · exact ⟨sc, _, rfl, dc, p9, p10, p11, p12, Ne.get (by k_mem), Ne.get (by k_mem)⟩) hF
          refine' use_ct (un_ct (Ne.get (a := D) (o := listOf (List.toArray ys) nD) (by k_mem)) hSI hys) ?hh ?hd ?hu ?hA ?B ?F ?K ?T ?hcs ?hX ?_; (case hh => exact rfl); (case hA => exact rfl); (case hd => exact Nat.le_of_ble_eq_true rfl); (case hu => exact Nat.le_of_ble_eq_true rfl); (case B => k_asm); (case F => exact Fe); (case K => k_asm); (case T => k_asm); (case hcs => exact rfl); (case hX => (intro x hx; cases hx))
          rintro r9 h9 tk9 F9 k9 rfl
          have N9 := News.all Ne k9
          clear Ne Fe hSI k9
          k_steps
          all_goals try (exfalso; first | exact unl_no1 hU (by assumption) (by assumption) (by assumption) | exact unl_no2 hU (by assumption) (by assumption) (by assumption) | exact unl_no3 hU (by assumption) (by assumption))
          all_goals (
            (rename Fr _ _ _ _ => Fz); (rename News _ _ _ _ => Nz)
            exact Turn6.mk Fz (by with_unfolding_all rfl) (News.tl (News.tl Nz)) b0 b1 b2)
        --J>
        clear hU hF hJ' nD2' nD' aD2 aD2I aD aDI eD eD2
        rintro s7 hx9
        refine hx9 _ ?_; clear hx9
        rintro h7 tk7 m7 at2 ta2 x2 tx2 n2 rfl F7 N7 b0 b1 b2
        dsimp only [ledP] at N7
        k_steps
        (with_reducible refine Stop.mk ?_)
        refine Assign_ListCompJ [pt] (by with_unfolding_all rfl) (by with_unfolding_all rfl) (by decide) (by with_unfolding_all rfl) (by decide) (by with_unfolding_all rfl) (by with_unfolding_all rfl) (by with_unfolding_all rfl) ?_ (by intro _; with_unfolding_all rfl) ?_
        · show ¬ s9.heap.objs.size ∈ [pt]
          simp only [List.mem_singleton]; k_ne
        k_steps
        (with_reducible refine Stop.mk ?_)
        (rename Fr _ _ _ _ => Fe); (rename News _ _ _ _ => Ne)
        have hIn : IntsAt _ sl := IntsAt.news Ne (by k_mem) hI hlen
        have hPt : PotAt _ pt sl := ⟨_, _, _, _, _, Ne.get (a := pt) (o := potO sl _ _ _ _ _) (by k_mem), b0, b1, b2⟩
        clear b0 b1 b2
        refine' use_pot (dip_ct (k := 4) hPt hIn (by decide)) ?hh ?hd ?hu ?hA ?B ?F ?K ?T ?hcs ?N ?V ?_; (case hh => exact rfl); (case hA => exact rfl); (case hd => exact Nat.le_of_ble_eq_true rfl); (case hu => exact Nat.le_of_ble_eq_true rfl); (case B => k_asm); (case F => exact Fe); (case K => k_asm); (case T => k_asm); (case hcs => exact rfl); (case N => exact Ne); (case V => k_updF)
        rintro r6 at2 ta2 x2 tx2 n2 h6 tk6 b0 b1 b2 F6 N6 _ ⟨i5, t5', rfl, g0, g1⟩
        clear hIn hPt Ne Fe
        k_steps
        (rename Fr _ _ _ _ => Fe); (rename News _ _ _ _ => Ne); (rename IsRange _ _ _ _ _ _ _ _ => hR)
        have hXp := News.inX Ne (p := pt) (o := potO sl _ _ _ _ _) (by k_mem)
        have ep := Ne.get (a := pt) (o := potO sl at2 ta2 x2 tx2 n2) (by k_mem)
        refine rangeA [pt] (fun N i ys h => PotAt h pt sl ∧ ys.length = i ∧ ∃ ns, IntsAre ys ns) (fun a => a = pt) (by rfl) hR (by omega) (by omega) (alive1 ep) (by rintro b rfl; exact ⟨_, ep⟩) Fe.ns ?_ ?_ ?_ ?_ ?_
        · rintro q; exact (hXp _ (List.Mem.head _)).2 q.symm
        · exact fun N h k => ⟨⟨_, _, _, _, _, k _ _ ep, b0, b1, b2⟩, rfl, [], .nil⟩
        · rintro N N' i ys h h' ⟨a, e, ks, b⟩ c d
          exact ⟨a.of fun o e => d pt o (.inr rfl) e, e, ks, b⟩
        · rintro C N j2 tj2 ys s6 m6 hj2 ⟨hP, e, ks, hF⟩ hn6 hm6 hC hK hN hNX E6
          refine wpAny_tests_nil ?_
          rw [if_pos rfl]
          have F₃ := Fr.kept Fe hK hXp
          have N₃ := News.cons (News.one Ne hK (a := sl) (o := listOf (List.toArray ws) c) (by k_mem) (by simp only [List.mem_singleton]; k_ne)) (News.one Ne hK (a := s9.heap.objs.size + 1) (o := oc) (by k_mem) (by simp only [List.mem_singleton]; k_ne))
          clear Fe Ne
          k_steps
          (with_reducible refine Stop.mk ?_)
          (rename News _ _ _ _ => Ne); (rename Fr _ _ _ _ => Fe)
          have hIn : IntsAt _ sl := IntsAt.news Ne (by k_mem) hI hlen
          refine' use_ct (dip_ct (s := { heap := s6.heap, gens := s6.gens, drawn := s6.drawn, toks := s6.toks + 1, os := s6.os }) (k := 9) hP hIn (by decide)) ?hh ?hd ?hu ?hA ?B ?F ?K ?T ?hcs ?hX ?_; (case hh => exact rfl); (case hA => exact rfl); (case hd => exact Nat.le_of_ble_eq_true rfl); (case hu => exact Nat.le_of_ble_eq_true rfl); (case B => k_asm); (case F => exact Fe); (case K => k_asm); (case T => k_asm); (case hcs => exact rfl); (case hX => exact hXp)
          rintro r7 h7 tk7 F7 hk7 ⟨hP7, i7, t7, rfl, w0, w1⟩
          exact ⟨_, _, rfl, hk7, hP7, by simp [e], _, IntsAre.app hF (.cons i7 t7 .nil)⟩
        · intro D h' tk ys hD ⟨nD, eD⟩ hlen' ⟨hP, e, ks, hF⟩ hns hK
          have nD' := Fr.new Fe hD
          have aD : Apart D pt := ⟨ne_fresh hD ep⟩
          have aDI : Apart D I := ⟨ne_fresh hD (Ne.get (a := I) (o := oI) (by k_mem))⟩
          obtain ⟨at3, ta3, x3, tx3, n3, ep3, b0, b1, b2⟩ := hP
          have F₄ := Fr.assign Fe hns hK hXp
          have N₄ := News.holeL (o := potO sl at2 ta2 x2 tx2 n2) Ne (by k_updF) hK ep3
          have N₅ := News.cons (q := (D, listOf (List.toArray ys) nD)) (fun z hz => by rw [List.mem_singleton.mp hz]; exact ⟨eD, nD'⟩) N₄
          have hy2 : ys.length = 2 * i5.toNat := by omega
          have hy3 : i5.toNat ≤ 3 := by omega
          clear Fe Ne hns hK hlen' hR ep hXp N₄ e
          dsimp only
          k_steps
          (with_reducible refine Stop.mk ?_)
          refine ListComp2 (by rfl) (by with_unfolding_all rfl) (by decide) (by with_unfolding_all rfl) (by decide) (by with_unfolding_all rfl) (by decide) (by with_unfolding_all rfl) (by decide) (by intro _; with_unfolding_all rfl) (by intro _ _; with_unfolding_all rfl) ?_
          k_steps
          (with_reducible refine Stop.mk ?_)
          (rename Fr _ _ _ _ => Fe); (rename News _ _ _ _ => Ne)
          refine' use_ct (pairs_ct (Ne.get (a := D) (o := listOf (List.toArray ys) nD) (by k_mem)) hy2 hy3) ?hh ?hd ?hu ?hA ?B ?F ?K ?T ?hcs ?hX ?_; (case hh => exact rfl); (case hA => exact rfl); (case hd => exact Nat.le_of_ble_eq_true rfl); (case hu => exact Nat.le_of_ble_eq_true rfl); (case B => k_asm); (case F => exact Fe); (case K => k_asm); (case T => k_asm); (case hcs => exact rfl); (case hX => (intro x hx; cases hx))
          rintro r9 h9 tk9 F9 k9 ⟨D9, zs, nD9, rfl, fD9, eD9, hP9⟩
          have N9 := News.all Ne k9
          clear Ne Fe k9
          refine Stop.mk ⟨D9, zs, pairUp ys, rfl, ⟨_, eD9, rfl, _, rfl⟩, paired_mono (fun p v ⟨a, n, e, _, ea⟩ => ⟨a, n, e, trivial, ea⟩) hP9, by rw [pairUp_len hy2]; omega, ?_⟩
          rintro D8 h8 tk8 hD8 ⟨nD8, eD8⟩ k8
          have F10 := Fr.kept F9 k8 (by simp)
          rw [flat_pairUp hy2] at eD8
          have N10 := News.cons (q := (D8, listOf (List.toArray ys) nD8)) (fun z hz => by rw [List.mem_singleton.mp hz]; exact ⟨eD8, Fr.new F9 hD8⟩) (News.all N9 k8)
          clear N9 F9 k8 eD8 hP9 eD9
          dsimp only
          k_steps
          (with_reducible refine Stop.mk ?_)
          (rename Fr _ _ _ _ => Fe); (rename News _ _ _ _ => Ne)
          refine ne_lists (xs := ys) (ys := ys) ⟨_, Ne.get (a := D8) (o := listOf (List.toArray ys) nD8) (by k_mem), rfl, _, rfl⟩ ⟨_, Ne.get (a := D) (o := listOf (List.toArray ys) nD) (by k_mem), rfl, _, rfl⟩ (ints_eq hF hF) (Nat.le_of_ble_eq_true rfl) ?_
          k_steps
          all_goals try exact True.intro
          (rename Fr _ _ _ _ => Fz); (rename News _ _ _ _ => Nz)
          refine ⟨_, _, _, rfl, Fz.ns, ?_, Fz.keep, by with_unfolding_all rfl, _, _, _, _, _, News.tl (News.tl (News.tl Nz)), b0, b1, b2⟩
          intro b hb o e
          rw [List.mem_singleton.mp hb] at e ⊢
          rw [eI] at e; cases e
          exact Nz.get (a := I) (o := oI) (by k_mem)
  --H>
  --I<
  · rintro h' tk m' hn' ⟨kk, hu, at1, ta1, x1, tx1, n1, N3, b0, b1, b2⟩
    have F₃ := Fr.mk' hn' kk FE.above
    dsimp only [ledP] at N3
    clear FE Ne
    k_steps
    (with_reducible refine Stop.mk ?_)
    (rename Fr _ _ _ _ => Fe); (rename News _ _ _ _ => Ne)
    refine eq_tup (Ne.get (List.Mem.tail _ (List.Mem.head _))) (Ne.get (List.Mem.head _)) (eq_str' _ _ _) (PySem.SeqAt.EqAt.same _) (PySem.SeqAt.EqAt.same _) (Nat.le_of_ble_eq_true rfl) ?_
    k_steps
  --I>
  )
end

end Mine
theorem PySem.Challenge.cw_ok0047_01_holds : PySem.Challenge.rw_ok0047_01.Holds :=
  Mine.law47
