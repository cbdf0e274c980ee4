import PyProof.Rows.All
import Wide.All
import OpenK.AllK
import Wide.FinOn
import Lean
import PySem.Challenge.RW_og0240_01
open PySem PySem.W PySem.Spec PySem.Calls PyProof.Rows
set_option Elab.async false
set_option maxRecDepth 100000
set_option maxHeartbeats 8000000
set_option linter.unusedSimpArgs false
set_option linter.unusedVariables false
namespace Og
noncomputable def pbody : List Stmt := PySem.Challenge.pw_og0240_01.main.body
noncomputable def nth (i : Nat) (l : List Stmt) : Stmt := l.getD i (.Pass ⟨0, 0, 0, 0⟩)
noncomputable def inner : Stmt → List Stmt
  | .ClassDef _ _ _ b _ _ _ _ _ _ _ => b
  | _ => []
noncomputable def fArgs : Stmt → Arguments
  | .FunctionDef _ a _ _ _ _ _ _ _ _ => a
  | _ => ⟨[], [], none, [], [], none, []⟩
noncomputable def fBody : Stmt → List Stmt
  | .FunctionDef _ _ b _ _ _ _ _ _ _ => b
  | _ => []
noncomputable def fScope : Stmt → Scope
  | .FunctionDef _ _ _ _ _ _ s _ _ _ => s
  | _ => PySem.Challenge.pw_og0240_01.main.scope
noncomputable def a21 : PySem.Arguments := by
  refine (?f : ∀ x : PySem.Arguments, fArgs (nth 1 pbody) = x → (PySem.Arguments)) ?x ?h
  case h => conv => lhs; whnf
  case f => exact fun x _ => x
noncomputable def b21 : List PySem.Stmt := by
  refine (?f : ∀ x : List PySem.Stmt, fBody (nth 1 pbody) = x → (List PySem.Stmt)) ?x ?h
  case h => conv => lhs; whnf
  case f => exact fun x _ => x
noncomputable def s21 : PySem.Scope := by
  refine (?f : ∀ x : PySem.Scope, fScope (nth 1 pbody) = x → (PySem.Scope)) ?x ?h
  case h => conv => lhs; whnf
  case f => exact fun x _ => x
noncomputable def a28 : PySem.Arguments := by
  refine (?f : ∀ x : PySem.Arguments, fArgs (nth 2 pbody) = x → (PySem.Arguments)) ?x ?h
  case h => conv => lhs; whnf
  case f => exact fun x _ => x
noncomputable def b28 : List PySem.Stmt := by
  refine (?f : ∀ x : List PySem.Stmt, fBody (nth 2 pbody) = x → (List PySem.Stmt)) ?x ?h
  case h => conv => lhs; whnf
  case f => exact fun x _ => x
noncomputable def s28 : PySem.Scope := by
  refine (?f : ∀ x : PySem.Scope, fScope (nth 2 pbody) = x → (PySem.Scope)) ?x ?h
  case h => conv => lhs; whnf
  case f => exact fun x _ => x
noncomputable def a43 : PySem.Arguments := by
  refine (?f : ∀ x : PySem.Arguments, fArgs (nth 0 (inner (nth 8 pbody))) = x → (PySem.Arguments)) ?x ?h
  case h => conv => lhs; whnf
  case f => exact fun x _ => x
noncomputable def b43 : List PySem.Stmt := by
  refine (?f : ∀ x : List PySem.Stmt, fBody (nth 0 (inner (nth 8 pbody))) = x → (List PySem.Stmt)) ?x ?h
  case h => conv => lhs; whnf
  case f => exact fun x _ => x
noncomputable def s43 : PySem.Scope := by
  refine (?f : ∀ x : PySem.Scope, fScope (nth 0 (inner (nth 8 pbody))) = x → (PySem.Scope)) ?x ?h
  case h => conv => lhs; whnf
  case f => exact fun x _ => x
noncomputable def a50 : PySem.Arguments := by
  refine (?f : ∀ x : PySem.Arguments, fArgs (nth 1 (inner (nth 8 pbody))) = x → (PySem.Arguments)) ?x ?h
  case h => conv => lhs; whnf
  case f => exact fun x _ => x
noncomputable def b50 : List PySem.Stmt := by
  refine (?f : ∀ x : List PySem.Stmt, fBody (nth 1 (inner (nth 8 pbody))) = x → (List PySem.Stmt)) ?x ?h
  case h => conv => lhs; whnf
  case f => exact fun x _ => x
noncomputable def s50 : PySem.Scope := by
  refine (?f : ∀ x : PySem.Scope, fScope (nth 1 (inner (nth 8 pbody))) = x → (PySem.Scope)) ?x ?h
  case h => conv => lhs; whnf
  case f => exact fun x _ => x
noncomputable def a57 : PySem.Arguments := by
  refine (?f : ∀ x : PySem.Arguments, fArgs (nth 2 (inner (nth 8 pbody))) = x → (PySem.Arguments)) ?x ?h
  case h => conv => lhs; whnf
  case f => exact fun x _ => x
noncomputable def b57 : List PySem.Stmt := by
  refine (?f : ∀ x : List PySem.Stmt, fBody (nth 2 (inner (nth 8 pbody))) = x → (List PySem.Stmt)) ?x ?h
  case h => conv => lhs; whnf
  case f => exact fun x _ => x
noncomputable def s57 : PySem.Scope := by
  refine (?f : ∀ x : PySem.Scope, fScope (nth 2 (inner (nth 8 pbody))) = x → (PySem.Scope)) ?x ?h
  case h => conv => lhs; whnf
  case f => exact fun x _ => x
noncomputable def a64 : PySem.Arguments := by
  refine (?f : ∀ x : PySem.Arguments, fArgs (nth 3 (inner (nth 8 pbody))) = x → (PySem.Arguments)) ?x ?h
  case h => conv => lhs; whnf
  case f => exact fun x _ => x
noncomputable def b64 : List PySem.Stmt := by
  refine (?f : ∀ x : List PySem.Stmt, fBody (nth 3 (inner (nth 8 pbody))) = x → (List PySem.Stmt)) ?x ?h
  case h => conv => lhs; whnf
  case f => exact fun x _ => x
noncomputable def s64 : PySem.Scope := by
  refine (?f : ∀ x : PySem.Scope, fScope (nth 3 (inner (nth 8 pbody))) = x → (PySem.Scope)) ?x ?h
  case h => conv => lhs; whnf
  case f => exact fun x _ => x
noncomputable def a71 : PySem.Arguments := by
  refine (?f : ∀ x : PySem.Arguments, fArgs (nth 4 (inner (nth 8 pbody))) = x → (PySem.Arguments)) ?x ?h
  case h => conv => lhs; whnf
  case f => exact fun x _ => x
noncomputable def b71 : List PySem.Stmt := by
  refine (?f : ∀ x : List PySem.Stmt, fBody (nth 4 (inner (nth 8 pbody))) = x → (List PySem.Stmt)) ?x ?h
  case h => conv => lhs; whnf
  case f => exact fun x _ => x
noncomputable def s71 : PySem.Scope := by
  refine (?f : ∀ x : PySem.Scope, fScope (nth 4 (inner (nth 8 pbody))) = x → (PySem.Scope)) ?x ?h
  case h => conv => lhs; whnf
  case f => exact fun x _ => x
noncomputable def a76 : PySem.Arguments := by
  refine (?f : ∀ x : PySem.Arguments, fArgs (nth 5 (inner (nth 8 pbody))) = x → (PySem.Arguments)) ?x ?h
  case h => conv => lhs; whnf
  case f => exact fun x _ => x
noncomputable def b76 : List PySem.Stmt := by
  refine (?f : ∀ x : List PySem.Stmt, fBody (nth 5 (inner (nth 8 pbody))) = x → (List PySem.Stmt)) ?x ?h
  case h => conv => lhs; whnf
  case f => exact fun x _ => x
noncomputable def s76 : PySem.Scope := by
  refine (?f : ∀ x : PySem.Scope, fScope (nth 5 (inner (nth 8 pbody))) = x → (PySem.Scope)) ?x ?h
  case h => conv => lhs; whnf
  case f => exact fun x _ => x
noncomputable def a91 : PySem.Arguments := by
  refine (?f : ∀ x : PySem.Arguments, fArgs (nth 9 pbody) = x → (PySem.Arguments)) ?x ?h
  case h => conv => lhs; whnf
  case f => exact fun x _ => x
noncomputable def b91 : List PySem.Stmt := by
  refine (?f : ∀ x : List PySem.Stmt, fBody (nth 9 pbody) = x → (List PySem.Stmt)) ?x ?h
  case h => conv => lhs; whnf
  case f => exact fun x _ => x
noncomputable def s91 : PySem.Scope := by
  refine (?f : ∀ x : PySem.Scope, fScope (nth 9 pbody) = x → (PySem.Scope)) ?x ?h
  case h => conv => lhs; whnf
  case f => exact fun x _ => x
noncomputable def a98 : PySem.Arguments := by
  refine (?f : ∀ x : PySem.Arguments, fArgs (nth 10 pbody) = x → (PySem.Arguments)) ?x ?h
  case h => conv => lhs; whnf
  case f => exact fun x _ => x
noncomputable def b98 : List PySem.Stmt := by
  refine (?f : ∀ x : List PySem.Stmt, fBody (nth 10 pbody) = x → (List PySem.Stmt)) ?x ?h
  case h => conv => lhs; whnf
  case f => exact fun x _ => x
noncomputable def s98 : PySem.Scope := by
  refine (?f : ∀ x : PySem.Scope, fScope (nth 10 pbody) = x → (PySem.Scope)) ?x ?h
  case h => conv => lhs; whnf
  case f => exact fun x _ => x
noncomputable def a103 : PySem.Arguments := by
  refine (?f : ∀ x : PySem.Arguments, fArgs (nth 11 pbody) = x → (PySem.Arguments)) ?x ?h
  case h => conv => lhs; whnf
  case f => exact fun x _ => x
noncomputable def b103 : List PySem.Stmt := by
  refine (?f : ∀ x : List PySem.Stmt, fBody (nth 11 pbody) = x → (List PySem.Stmt)) ?x ?h
  case h => conv => lhs; whnf
  case f => exact fun x _ => x
noncomputable def s103 : PySem.Scope := by
  refine (?f : ∀ x : PySem.Scope, fScope (nth 11 pbody) = x → (PySem.Scope)) ?x ?h
  case h => conv => lhs; whnf
  case f => exact fun x _ => x
noncomputable def a108 : PySem.Arguments := by
  refine (?f : ∀ x : PySem.Arguments, fArgs (nth 12 pbody) = x → (PySem.Arguments)) ?x ?h
  case h => conv => lhs; whnf
  case f => exact fun x _ => x
noncomputable def b108 : List PySem.Stmt := by
  refine (?f : ∀ x : List PySem.Stmt, fBody (nth 12 pbody) = x → (List PySem.Stmt)) ?x ?h
  case h => conv => lhs; whnf
  case f => exact fun x _ => x
noncomputable def s108 : PySem.Scope := by
  refine (?f : ∀ x : PySem.Scope, fScope (nth 12 pbody) = x → (PySem.Scope)) ?x ?h
  case h => conv => lhs; whnf
  case f => exact fun x _ => x
noncomputable def a115 : PySem.Arguments := by
  refine (?f : ∀ x : PySem.Arguments, fArgs (nth 13 pbody) = x → (PySem.Arguments)) ?x ?h
  case h => conv => lhs; whnf
  case f => exact fun x _ => x
noncomputable def b115 : List PySem.Stmt := by
  refine (?f : ∀ x : List PySem.Stmt, fBody (nth 13 pbody) = x → (List PySem.Stmt)) ?x ?h
  case h => conv => lhs; whnf
  case f => exact fun x _ => x
noncomputable def s115 : PySem.Scope := by
  refine (?f : ∀ x : PySem.Scope, fScope (nth 13 pbody) = x → (PySem.Scope)) ?x ?h
  case h => conv => lhs; whnf
  case f => exact fun x _ => x
noncomputable def a122 : PySem.Arguments := by
  refine (?f : ∀ x : PySem.Arguments, fArgs (nth 14 pbody) = x → (PySem.Arguments)) ?x ?h
  case h => conv => lhs; whnf
  case f => exact fun x _ => x
noncomputable def b122 : List PySem.Stmt := by
  refine (?f : ∀ x : List PySem.Stmt, fBody (nth 14 pbody) = x → (List PySem.Stmt)) ?x ?h
  case h => conv => lhs; whnf
  case f => exact fun x _ => x
noncomputable def s122 : PySem.Scope := by
  refine (?f : ∀ x : PySem.Scope, fScope (nth 14 pbody) = x → (PySem.Scope)) ?x ?h
  case h => conv => lhs; whnf
  case f => exact fun x _ => x
noncomputable def a129 : PySem.Arguments := by
  refine (?f : ∀ x : PySem.Arguments, fArgs (nth 15 pbody) = x → (PySem.Arguments)) ?x ?h
  case h => conv => lhs; whnf
  case f => exact fun x _ => x
noncomputable def b129 : List PySem.Stmt := by
  refine (?f : ∀ x : List PySem.Stmt, fBody (nth 15 pbody) = x → (List PySem.Stmt)) ?x ?h
  case h => conv => lhs; whnf
  case f => exact fun x _ => x
noncomputable def s129 : PySem.Scope := by
  refine (?f : ∀ x : PySem.Scope, fScope (nth 15 pbody) = x → (PySem.Scope)) ?x ?h
  case h => conv => lhs; whnf
  case f => exact fun x _ => x
noncomputable def a136 : PySem.Arguments := by
  refine (?f : ∀ x : PySem.Arguments, fArgs (nth 16 pbody) = x → (PySem.Arguments)) ?x ?h
  case h => conv => lhs; whnf
  case f => exact fun x _ => x
noncomputable def b136 : List PySem.Stmt := by
  refine (?f : ∀ x : List PySem.Stmt, fBody (nth 16 pbody) = x → (List PySem.Stmt)) ?x ?h
  case h => conv => lhs; whnf
  case f => exact fun x _ => x
noncomputable def s136 : PySem.Scope := by
  refine (?f : ∀ x : PySem.Scope, fScope (nth 16 pbody) = x → (PySem.Scope)) ?x ?h
  case h => conv => lhs; whnf
  case f => exact fun x _ => x
noncomputable def a143 : PySem.Arguments := by
  refine (?f : ∀ x : PySem.Arguments, fArgs (nth 17 pbody) = x → (PySem.Arguments)) ?x ?h
  case h => conv => lhs; whnf
  case f => exact fun x _ => x
noncomputable def b143 : List PySem.Stmt := by
  refine (?f : ∀ x : List PySem.Stmt, fBody (nth 17 pbody) = x → (List PySem.Stmt)) ?x ?h
  case h => conv => lhs; whnf
  case f => exact fun x _ => x
noncomputable def s143 : PySem.Scope := by
  refine (?f : ∀ x : PySem.Scope, fScope (nth 17 pbody) = x → (PySem.Scope)) ?x ?h
  case h => conv => lhs; whnf
  case f => exact fun x _ => x
noncomputable def a148 : PySem.Arguments := by
  refine (?f : ∀ x : PySem.Arguments, fArgs (nth 18 pbody) = x → (PySem.Arguments)) ?x ?h
  case h => conv => lhs; whnf
  case f => exact fun x _ => x
noncomputable def b148 : List PySem.Stmt := by
  refine (?f : ∀ x : List PySem.Stmt, fBody (nth 18 pbody) = x → (List PySem.Stmt)) ?x ?h
  case h => conv => lhs; whnf
  case f => exact fun x _ => x
noncomputable def s148 : PySem.Scope := by
  refine (?f : ∀ x : PySem.Scope, fScope (nth 18 pbody) = x → (PySem.Scope)) ?x ?h
  case h => conv => lhs; whnf
  case f => exact fun x _ => x
noncomputable def a155 : PySem.Arguments := by
  refine (?f : ∀ x : PySem.Arguments, fArgs (nth 19 pbody) = x → (PySem.Arguments)) ?x ?h
  case h => conv => lhs; whnf
  case f => exact fun x _ => x
noncomputable def b155 : List PySem.Stmt := by
  refine (?f : ∀ x : List PySem.Stmt, fBody (nth 19 pbody) = x → (List PySem.Stmt)) ?x ?h
  case h => conv => lhs; whnf
  case f => exact fun x _ => x
noncomputable def s155 : PySem.Scope := by
  refine (?f : ∀ x : PySem.Scope, fScope (nth 19 pbody) = x → (PySem.Scope)) ?x ?h
  case h => conv => lhs; whnf
  case f => exact fun x _ => x
noncomputable def a160 : PySem.Arguments := by
  refine (?f : ∀ x : PySem.Arguments, fArgs (nth 20 pbody) = x → (PySem.Arguments)) ?x ?h
  case h => conv => lhs; whnf
  case f => exact fun x _ => x
noncomputable def b160 : List PySem.Stmt := by
  refine (?f : ∀ x : List PySem.Stmt, fBody (nth 20 pbody) = x → (List PySem.Stmt)) ?x ?h
  case h => conv => lhs; whnf
  case f => exact fun x _ => x
noncomputable def s160 : PySem.Scope := by
  refine (?f : ∀ x : PySem.Scope, fScope (nth 20 pbody) = x → (PySem.Scope)) ?x ?h
  case h => conv => lhs; whnf
  case f => exact fun x _ => x
noncomputable def a167 : PySem.Arguments := by
  refine (?f : ∀ x : PySem.Arguments, fArgs (nth 21 pbody) = x → (PySem.Arguments)) ?x ?h
  case h => conv => lhs; whnf
  case f => exact fun x _ => x
noncomputable def b167 : List PySem.Stmt := by
  refine (?f : ∀ x : List PySem.Stmt, fBody (nth 21 pbody) = x → (List PySem.Stmt)) ?x ?h
  case h => conv => lhs; whnf
  case f => exact fun x _ => x
noncomputable def s167 : PySem.Scope := by
  refine (?f : ∀ x : PySem.Scope, fScope (nth 21 pbody) = x → (PySem.Scope)) ?x ?h
  case h => conv => lhs; whnf
  case f => exact fun x _ => x
noncomputable def a176 : PySem.Arguments := by
  refine (?f : ∀ x : PySem.Arguments, fArgs (nth 25 pbody) = x → (PySem.Arguments)) ?x ?h
  case h => conv => lhs; whnf
  case f => exact fun x _ => x
noncomputable def b176 : List PySem.Stmt := by
  refine (?f : ∀ x : List PySem.Stmt, fBody (nth 25 pbody) = x → (List PySem.Stmt)) ?x ?h
  case h => conv => lhs; whnf
  case f => exact fun x _ => x
noncomputable def s176 : PySem.Scope := by
  refine (?f : ∀ x : PySem.Scope, fScope (nth 25 pbody) = x → (PySem.Scope)) ?x ?h
  case h => conv => lhs; whnf
  case f => exact fun x _ => x
noncomputable def a183 : PySem.Arguments := by
  refine (?f : ∀ x : PySem.Arguments, fArgs (nth 26 pbody) = x → (PySem.Arguments)) ?x ?h
  case h => conv => lhs; whnf
  case f => exact fun x _ => x
noncomputable def b183 : List PySem.Stmt := by
  refine (?f : ∀ x : List PySem.Stmt, fBody (nth 26 pbody) = x → (List PySem.Stmt)) ?x ?h
  case h => conv => lhs; whnf
  case f => exact fun x _ => x
noncomputable def s183 : PySem.Scope := by
  refine (?f : ∀ x : PySem.Scope, fScope (nth 26 pbody) = x → (PySem.Scope)) ?x ?h
  case h => conv => lhs; whnf
  case f => exact fun x _ => x
noncomputable def a190 : PySem.Arguments := by
  refine (?f : ∀ x : PySem.Arguments, fArgs (nth 27 pbody) = x → (PySem.Arguments)) ?x ?h
  case h => conv => lhs; whnf
  case f => exact fun x _ => x
noncomputable def b190 : List PySem.Stmt := by
  refine (?f : ∀ x : List PySem.Stmt, fBody (nth 27 pbody) = x → (List PySem.Stmt)) ?x ?h
  case h => conv => lhs; whnf
  case f => exact fun x _ => x
noncomputable def s190 : PySem.Scope := by
  refine (?f : ∀ x : PySem.Scope, fScope (nth 27 pbody) = x → (PySem.Scope)) ?x ?h
  case h => conv => lhs; whnf
  case f => exact fun x _ => x
noncomputable def a195 : PySem.Arguments := by
  refine (?f : ∀ x : PySem.Arguments, fArgs (nth 28 pbody) = x → (PySem.Arguments)) ?x ?h
  case h => conv => lhs; whnf
  case f => exact fun x _ => x
noncomputable def b195 : List PySem.Stmt := by
  refine (?f : ∀ x : List PySem.Stmt, fBody (nth 28 pbody) = x → (List PySem.Stmt)) ?x ?h
  case h => conv => lhs; whnf
  case f => exact fun x _ => x
noncomputable def s195 : PySem.Scope := by
  refine (?f : ∀ x : PySem.Scope, fScope (nth 28 pbody) = x → (PySem.Scope)) ?x ?h
  case h => conv => lhs; whnf
  case f => exact fun x _ => x
noncomputable def a200 : PySem.Arguments := by
  refine (?f : ∀ x : PySem.Arguments, fArgs (nth 29 pbody) = x → (PySem.Arguments)) ?x ?h
  case h => conv => lhs; whnf
  case f => exact fun x _ => x
noncomputable def b200 : List PySem.Stmt := by
  refine (?f : ∀ x : List PySem.Stmt, fBody (nth 29 pbody) = x → (List PySem.Stmt)) ?x ?h
  case h => conv => lhs; whnf
  case f => exact fun x _ => x
noncomputable def s200 : PySem.Scope := by
  refine (?f : ∀ x : PySem.Scope, fScope (nth 29 pbody) = x → (PySem.Scope)) ?x ?h
  case h => conv => lhs; whnf
  case f => exact fun x _ => x
noncomputable def a207 : PySem.Arguments := by
  refine (?f : ∀ x : PySem.Arguments, fArgs (nth 30 pbody) = x → (PySem.Arguments)) ?x ?h
  case h => conv => lhs; whnf
  case f => exact fun x _ => x
noncomputable def b207 : List PySem.Stmt := by
  refine (?f : ∀ x : List PySem.Stmt, fBody (nth 30 pbody) = x → (List PySem.Stmt)) ?x ?h
  case h => conv => lhs; whnf
  case f => exact fun x _ => x
noncomputable def s207 : PySem.Scope := by
  refine (?f : ∀ x : PySem.Scope, fScope (nth 30 pbody) = x → (PySem.Scope)) ?x ?h
  case h => conv => lhs; whnf
  case f => exact fun x _ => x
noncomputable def a214 : PySem.Arguments := by
  refine (?f : ∀ x : PySem.Arguments, fArgs (nth 31 pbody) = x → (PySem.Arguments)) ?x ?h
  case h => conv => lhs; whnf
  case f => exact fun x _ => x
noncomputable def b214 : List PySem.Stmt := by
  refine (?f : ∀ x : List PySem.Stmt, fBody (nth 31 pbody) = x → (List PySem.Stmt)) ?x ?h
  case h => conv => lhs; whnf
  case f => exact fun x _ => x
noncomputable def s214 : PySem.Scope := by
  refine (?f : ∀ x : PySem.Scope, fScope (nth 31 pbody) = x → (PySem.Scope)) ?x ?h
  case h => conv => lhs; whnf
  case f => exact fun x _ => x
noncomputable def a221 : PySem.Arguments := by
  refine (?f : ∀ x : PySem.Arguments, fArgs (nth 32 pbody) = x → (PySem.Arguments)) ?x ?h
  case h => conv => lhs; whnf
  case f => exact fun x _ => x
noncomputable def b221 : List PySem.Stmt := by
  refine (?f : ∀ x : List PySem.Stmt, fBody (nth 32 pbody) = x → (List PySem.Stmt)) ?x ?h
  case h => conv => lhs; whnf
  case f => exact fun x _ => x
noncomputable def s221 : PySem.Scope := by
  refine (?f : ∀ x : PySem.Scope, fScope (nth 32 pbody) = x → (PySem.Scope)) ?x ?h
  case h => conv => lhs; whnf
  case f => exact fun x _ => x
noncomputable def a226 : PySem.Arguments := by
  refine (?f : ∀ x : PySem.Arguments, fArgs (nth 33 pbody) = x → (PySem.Arguments)) ?x ?h
  case h => (conv => lhs; whnf)
  case f => exact fun x _ => x
noncomputable def b226 : List PySem.Stmt := by
  refine (?f : ∀ x : List PySem.Stmt, fBody (nth 33 pbody) = x → (List PySem.Stmt)) ?x ?h
  case h => (conv => lhs; whnf)
  case f => exact fun x _ => x
noncomputable def s226 : PySem.Scope := by
  refine (?f : ∀ x : PySem.Scope, fScope (nth 33 pbody) = x → (PySem.Scope)) ?x ?h
  case h => (conv => lhs; whnf)
  case f => exact fun x _ => x
noncomputable def lN : List (Str × Nat) := []
noncomputable def oN (n : Nat) : Nat := @OfNat.ofNat Nat n (instOfNatNat n)
noncomputable def nN : Option Nat := none
noncomputable def sN : Nat → Option Nat := @Option.some Nat
noncomputable def kheap : Params → Frag := by
  refine (?f : ∀ x : Params → Frag, (fun P => (nat_lit 2, Obj.mk Value.none nN (Data.dict #[] (oN (nat_lit 0))) #[]) :: (nat_lit 3, Obj.mk (Value.type "dict") nN (Data.dict (List.toArray (DictEntry.mk (PyData.keyHash P (Str.ofString "__name__")) (Value.str (Str.ofString "__name__") (oN (nat_lit 165))) (Value.str (Str.ofString "law_og0240_01") (oN (nat_lit 397))) :: DictEntry.mk (PyData.keyHash P (Str.ofString "__doc__")) (Value.str (Str.ofString "__doc__") (oN (nat_lit 166))) Value.none :: DictEntry.mk (PyData.keyHash P (Str.ofString "__package__")) (Value.str (Str.ofString "__package__") (oN (nat_lit 167))) Value.none :: DictEntry.mk (PyData.keyHash P (Str.ofString "__loader__")) (Value.str (Str.ofString "__loader__") (oN (nat_lit 168))) (Value.builtin "__main__.__loader__#opaque") :: DictEntry.mk (PyData.keyHash P (Str.ofString "__spec__")) (Value.str (Str.ofString "__spec__") (oN (nat_lit 169))) Value.none :: DictEntry.mk (PyData.keyHash P (Str.ofString "__annotations__")) (Value.str (Str.ofString "__annotations__") (oN (nat_lit 170))) (Value.ref (oN (nat_lit 6))) :: DictEntry.mk (PyData.keyHash P (Str.ofString "__builtins__")) (Value.str (Str.ofString "__builtins__") (oN (nat_lit 171))) (Value.ref (oN (nat_lit 4))) :: DictEntry.mk (PyData.keyHash P (Str.ofString "__file__")) (Value.str (Str.ofString "__file__") (oN (nat_lit 173))) (Value.str (Str.ofString "/claim/cut.py") (oN (nat_lit 172))) :: DictEntry.mk (PyData.keyHash P (Str.ofString "__cached__")) (Value.str (Str.ofString "__cached__") (oN (nat_lit 174))) Value.none :: DictEntry.mk (PyData.keyHash P (Str.ofString "clamp")) (Value.str (Str.ofString "clamp") (oN (nat_lit 197))) (Value.ref (oN (nat_lit 21))) :: DictEntry.mk (PyData.keyHash P (Str.ofString "decimal_octets")) (Value.str (Str.ofString "decimal_octets") (oN (nat_lit 206))) (Value.ref (oN (nat_lit 28))) :: DictEntry.mk (PyData.keyHash P (Str.ofString "FIGURE_FIRST")) (Value.str (Str.ofString "FIGURE_FIRST") (oN (nat_lit 210))) (Value.int 48 (oN (nat_lit 209))) :: DictEntry.mk (PyData.keyHash P (Str.ofString "FIGURE_LAST")) (Value.str (Str.ofString "FIGURE_LAST") (oN (nat_lit 212))) (Value.int 57 (oN (nat_lit 211))) :: DictEntry.mk (PyData.keyHash P (Str.ofString "COLON")) (Value.str (Str.ofString "COLON") (oN (nat_lit 214))) (Value.int 58 (oN (nat_lit 213))) :: DictEntry.mk (PyData.keyHash P (Str.ofString "SEMICOLON")) (Value.str (Str.ofString "SEMICOLON") (oN (nat_lit 216))) (Value.int 59 (oN (nat_lit 215))) :: DictEntry.mk (PyData.keyHash P (Str.ofString "ParamReader")) (Value.str (Str.ofString "ParamReader") (oN (nat_lit 289))) (Value.ref (oN (nat_lit 79))) :: DictEntry.mk (PyData.keyHash P (Str.ofString "read_params")) (Value.str (Str.ofString "read_params") (oN (nat_lit 302))) (Value.ref (oN (nat_lit 91))) :: DictEntry.mk (PyData.keyHash P (Str.ofString "part_octets")) (Value.str (Str.ofString "part_octets") (oN (nat_lit 309))) (Value.ref (oN (nat_lit 98))) :: DictEntry.mk (PyData.keyHash P (Str.ofString "params_octets")) (Value.str (Str.ofString "params_octets") (oN (nat_lit 315))) (Value.ref (oN (nat_lit 103))) :: DictEntry.mk (PyData.keyHash P (Str.ofString "params_of")) (Value.str (Str.ofString "params_of") (oN (nat_lit 321))) (Value.ref (oN (nat_lit 108))) :: DictEntry.mk (PyData.keyHash P (Str.ofString "plain_of")) (Value.str (Str.ofString "plain_of") (oN (nat_lit 330))) (Value.ref (oN (nat_lit 115))) :: DictEntry.mk (PyData.keyHash P (Str.ofString "value_of")) (Value.str (Str.ofString "value_of") (oN (nat_lit 340))) (Value.ref (oN (nat_lit 122))) :: DictEntry.mk (PyData.keyHash P (Str.ofString "value_within")) (Value.str (Str.ofString "value_within") (oN (nat_lit 351))) (Value.ref (oN (nat_lit 129))) :: DictEntry.mk (PyData.keyHash P (Str.ofString "part_of")) (Value.str (Str.ofString "part_of") (oN (nat_lit 361))) (Value.ref (oN (nat_lit 136))) :: DictEntry.mk (PyData.keyHash P (Str.ofString "has_parts")) (Value.str (Str.ofString "has_parts") (oN (nat_lit 369))) (Value.ref (oN (nat_lit 143))) :: DictEntry.mk (PyData.keyHash P (Str.ofString "values_of")) (Value.str (Str.ofString "values_of") (oN (nat_lit 375))) (Value.ref (oN (nat_lit 148))) :: DictEntry.mk (PyData.keyHash P (Str.ofString "params_shown")) (Value.str (Str.ofString "params_shown") (oN (nat_lit 382))) (Value.ref (oN (nat_lit 155))) :: DictEntry.mk (PyData.keyHash P (Str.ofString "params_trimmed")) (Value.str (Str.ofString "params_trimmed") (oN (nat_lit 388))) (Value.ref (oN (nat_lit 160))) :: DictEntry.mk (PyData.keyHash P (Str.ofString "are_like_params")) (Value.str (Str.ofString "are_like_params") (oN (nat_lit 396))) (Value.ref (oN (nat_lit 167))) :: DictEntry.mk (PyData.keyHash P (Str.ofString "_law_figures")) (Value.str (Str.ofString "_law_figures") (oN (nat_lit 407))) (Value.ref (oN (nat_lit 168))) :: DictEntry.mk (PyData.keyHash P (Str.ofString "_law_others")) (Value.str (Str.ofString "_law_others") (oN (nat_lit 412))) (Value.ref (oN (nat_lit 169))) :: DictEntry.mk (PyData.keyHash P (Str.ofString "_law_draw")) (Value.str (Str.ofString "_law_draw") (oN (nat_lit 424))) (Value.ref (oN (nat_lit 176))) :: DictEntry.mk (PyData.keyHash P (Str.ofString "_law_octets")) (Value.str (Str.ofString "_law_octets") (oN (nat_lit 434))) (Value.ref (oN (nat_lit 183))) :: DictEntry.mk (PyData.keyHash P (Str.ofString "_law_value")) (Value.str (Str.ofString "_law_value") (oN (nat_lit 444))) (Value.ref (oN (nat_lit 190))) :: DictEntry.mk (PyData.keyHash P (Str.ofString "_law_read")) (Value.str (Str.ofString "_law_read") (oN (nat_lit 450))) (Value.ref (oN (nat_lit 195))) :: DictEntry.mk (PyData.keyHash P (Str.ofString "_law_written")) (Value.str (Str.ofString "_law_written") (oN (nat_lit 456))) (Value.ref (oN (nat_lit 200))) :: DictEntry.mk (PyData.keyHash P (Str.ofString "_law_trimmed")) (Value.str (Str.ofString "_law_trimmed") (oN (nat_lit 463))) (Value.ref (oN (nat_lit 207))) :: DictEntry.mk (PyData.keyHash P (Str.ofString "_law_pieces_right")) (Value.str (Str.ofString "_law_pieces_right") (oN (nat_lit 477))) (Value.ref (oN (nat_lit 214))) :: DictEntry.mk (PyData.keyHash P (Str.ofString "_law_place_right")) (Value.str (Str.ofString "_law_place_right") (oN (nat_lit 493))) (Value.ref (oN (nat_lit 221))) :: DictEntry.mk (PyData.keyHash P (Str.ofString "law")) (Value.str (Str.ofString "law") (oN (nat_lit 499))) (Value.ref (oN (nat_lit 226))) :: [])) (oN (nat_lit 40))) #[]) :: (nat_lit 15, Obj.mk (Value.type "tuple") nN (Data.seq #[] (oN (nat_lit 0))) #[]) :: (nat_lit 17, Obj.mk (Value.type "tuple") nN (Data.seq #[Value.str (Str.ofString "value") (oN (nat_lit 192)), Value.str (Str.ofString "least") (oN (nat_lit 193)), Value.str (Str.ofString "most") (oN (nat_lit 194))] (oN (nat_lit 0))) #[]) :: (nat_lit 18, Obj.mk (Value.type "tuple") nN (Data.seq #[] (oN (nat_lit 0))) #[]) :: (nat_lit 20, Obj.mk (Value.type "code") nN (Data.fields #[Value.str (Str.ofString "clamp") (oN (nat_lit 189)), Value.str (Str.ofString "clamp") (oN (nat_lit 190)), Value.str (Str.ofString "/claim/cut.py") (oN (nat_lit 191)), Value.int 2 (oN (nat_lit 0)), Value.int 3 (oN (nat_lit 0)), Value.int 0 (oN (nat_lit 0)), Value.int 0 (oN (nat_lit 0)), Value.int 3 (oN (nat_lit 0)), Value.ref (oN (nat_lit 15)), Value.bool Bool.true, Value.int 181 (oN (nat_lit 0)), Value.ref (oN (nat_lit 16)), Value.none, Value.ref (oN (nat_lit 17)), Value.ref (oN (nat_lit 18)), Value.ref (oN (nat_lit 19)), Value.int 195 (oN (nat_lit 0)), Value.int 2 (oN (nat_lit 0)), Value.str (Str.ofString "/claim/cut.py") (oN (nat_lit 196))]) #[]) :: (nat_lit 21, Obj.mk (Value.type "function") nN (Data.func (FuncData.mk (Str.ofString "clamp") (Str.ofString "clamp") a21 (FuncBody.stmts b21) s21 (oN (nat_lit 3)) lN Value.none Value.none Value.none (Value.str (Str.ofString "termcore.base") (oN (nat_lit 187))) nN (Value.ref (oN (nat_lit 20))) Value.none (oN (nat_lit 0)))) #[]) :: (nat_lit 22, Obj.mk (Value.type "tuple") nN (Data.seq #[] (oN (nat_lit 0))) #[]) :: (nat_lit 24, Obj.mk (Value.type "tuple") nN (Data.seq #[Value.str (Str.ofString "number") (oN (nat_lit 201)), Value.str (Str.ofString "rest") (oN (nat_lit 202)), Value.str (Str.ofString "found") (oN (nat_lit 203))] (oN (nat_lit 0))) #[]) :: (nat_lit 25, Obj.mk (Value.type "tuple") nN (Data.seq #[] (oN (nat_lit 0))) #[]) :: (nat_lit 27, Obj.mk (Value.type "code") nN (Data.fields #[Value.str (Str.ofString "decimal_octets") (oN (nat_lit 198)), Value.str (Str.ofString "decimal_octets") (oN (nat_lit 199)), Value.str (Str.ofString "/claim/cut.py") (oN (nat_lit 200)), Value.int 4 (oN (nat_lit 0)), Value.int 1 (oN (nat_lit 0)), Value.int 0 (oN (nat_lit 0)), Value.int 0 (oN (nat_lit 0)), Value.int 3 (oN (nat_lit 0)), Value.ref (oN (nat_lit 22)), Value.bool Bool.true, Value.int 181 (oN (nat_lit 0)), Value.ref (oN (nat_lit 23)), Value.none, Value.ref (oN (nat_lit 24)), Value.ref (oN (nat_lit 25)), Value.ref (oN (nat_lit 26)), Value.int 204 (oN (nat_lit 0)), Value.int 4 (oN (nat_lit 0)), Value.str (Str.ofString "/claim/cut.py") (oN (nat_lit 205))]) #[]) :: (nat_lit 28, Obj.mk (Value.type "function") nN (Data.func (FuncData.mk (Str.ofString "decimal_octets") (Str.ofString "decimal_octets") a28 (FuncBody.stmts b28) s28 (oN (nat_lit 3)) lN Value.none Value.none Value.none (Value.str (Str.ofString "termcore.base") (oN (nat_lit 187))) nN (Value.ref (oN (nat_lit 27))) Value.none (oN (nat_lit 0)))) #[]) :: (nat_lit 36, Obj.mk (Value.type "tuple") nN (Data.seq #[Value.int 32 (oN (nat_lit 229)), Value.int 65535 (oN (nat_lit 230))] (oN (nat_lit 0))) #[]) :: (nat_lit 37, Obj.mk (Value.type "tuple") nN (Data.seq #[] (oN (nat_lit 0))) #[]) :: (nat_lit 39, Obj.mk (Value.type "tuple") nN (Data.seq #[Value.str (Str.ofString "self") (oN (nat_lit 234)), Value.str (Str.ofString "most") (oN (nat_lit 235)), Value.str (Str.ofString "limit") (oN (nat_lit 236))] (oN (nat_lit 0))) #[]) :: (nat_lit 40, Obj.mk (Value.type "tuple") nN (Data.seq #[] (oN (nat_lit 0))) #[]) :: (nat_lit 42, Obj.mk (Value.type "code") nN (Data.fields #[Value.str (Str.ofString "__init__") (oN (nat_lit 231)), Value.str (Str.ofString "ParamReader.__init__") (oN (nat_lit 232)), Value.str (Str.ofString "/claim/cut.py") (oN (nat_lit 233)), Value.int 21 (oN (nat_lit 0)), Value.int 3 (oN (nat_lit 0)), Value.int 0 (oN (nat_lit 0)), Value.int 0 (oN (nat_lit 0)), Value.int 3 (oN (nat_lit 0)), Value.ref (oN (nat_lit 37)), Value.bool Bool.true, Value.int 181 (oN (nat_lit 0)), Value.ref (oN (nat_lit 38)), Value.none, Value.ref (oN (nat_lit 39)), Value.ref (oN (nat_lit 40)), Value.ref (oN (nat_lit 41)), Value.int 237 (oN (nat_lit 0)), Value.int 21 (oN (nat_lit 0)), Value.str (Str.ofString "/claim/cut.py") (oN (nat_lit 238))]) #[]) :: (nat_lit 43, Obj.mk (Value.type "function") nN (Data.func (FuncData.mk (Str.ofString "__init__") (Str.ofString "ParamReader.__init__") a43 (FuncBody.stmts b43) s43 (oN (nat_lit 3)) lN (Value.ref (oN (nat_lit 36))) Value.none Value.none (Value.str (Str.ofString "termcore.params") (oN (nat_lit 207))) nN (Value.ref (oN (nat_lit 42))) Value.none (oN (nat_lit 0)))) #[]) :: (nat_lit 44, Obj.mk (Value.type "tuple") nN (Data.seq #[] (oN (nat_lit 0))) #[]) :: (nat_lit 46, Obj.mk (Value.type "tuple") nN (Data.seq #[Value.str (Str.ofString "self") (oN (nat_lit 243))] (oN (nat_lit 0))) #[]) :: (nat_lit 47, Obj.mk (Value.type "tuple") nN (Data.seq #[] (oN (nat_lit 0))) #[]) :: (nat_lit 49, Obj.mk (Value.type "code") nN (Data.fields #[Value.str (Str.ofString "clear") (oN (nat_lit 240)), Value.str (Str.ofString "ParamReader.clear") (oN (nat_lit 241)), Value.str (Str.ofString "/claim/cut.py") (oN (nat_lit 242)), Value.int 26 (oN (nat_lit 0)), Value.int 1 (oN (nat_lit 0)), Value.int 0 (oN (nat_lit 0)), Value.int 0 (oN (nat_lit 0)), Value.int 3 (oN (nat_lit 0)), Value.ref (oN (nat_lit 44)), Value.bool Bool.true, Value.int 181 (oN (nat_lit 0)), Value.ref (oN (nat_lit 45)), Value.none, Value.ref (oN (nat_lit 46)), Value.ref (oN (nat_lit 47)), Value.ref (oN (nat_lit 48)), Value.int 244 (oN (nat_lit 0)), Value.int 26 (oN (nat_lit 0)), Value.str (Str.ofString "/claim/cut.py") (oN (nat_lit 245))]) #[]) :: (nat_lit 50, Obj.mk (Value.type "function") nN (Data.func (FuncData.mk (Str.ofString "clear") (Str.ofString "ParamReader.clear") a50 (FuncBody.stmts b50) s50 (oN (nat_lit 3)) lN Value.none Value.none Value.none (Value.str (Str.ofString "termcore.params") (oN (nat_lit 207))) nN (Value.ref (oN (nat_lit 49))) Value.none (oN (nat_lit 0)))) #[]) :: (nat_lit 51, Obj.mk (Value.type "tuple") nN (Data.seq #[] (oN (nat_lit 0))) #[]) :: (nat_lit 53, Obj.mk (Value.type "tuple") nN (Data.seq #[Value.str (Str.ofString "self") (oN (nat_lit 250)), Value.str (Str.ofString "octet") (oN (nat_lit 251)), Value.str (Str.ofString "ahead") (oN (nat_lit 252))] (oN (nat_lit 0))) #[]) :: (nat_lit 54, Obj.mk (Value.type "tuple") nN (Data.seq #[] (oN (nat_lit 0))) #[]) :: (nat_lit 56, Obj.mk (Value.type "code") nN (Data.fields #[Value.str (Str.ofString "put") (oN (nat_lit 247)), Value.str (Str.ofString "ParamReader.put") (oN (nat_lit 248)), Value.str (Str.ofString "/claim/cut.py") (oN (nat_lit 249)), Value.int 32 (oN (nat_lit 0)), Value.int 2 (oN (nat_lit 0)), Value.int 0 (oN (nat_lit 0)), Value.int 0 (oN (nat_lit 0)), Value.int 3 (oN (nat_lit 0)), Value.ref (oN (nat_lit 51)), Value.bool Bool.true, Value.int 181 (oN (nat_lit 0)), Value.ref (oN (nat_lit 52)), Value.none, Value.ref (oN (nat_lit 53)), Value.ref (oN (nat_lit 54)), Value.ref (oN (nat_lit 55)), Value.int 253 (oN (nat_lit 0)), Value.int 32 (oN (nat_lit 0)), Value.str (Str.ofString "/claim/cut.py") (oN (nat_lit 254))]) #[]) :: (nat_lit 57, Obj.mk (Value.type "function") nN (Data.func (FuncData.mk (Str.ofString "put") (Str.ofString "ParamReader.put") a57 (FuncBody.stmts b57) s57 (oN (nat_lit 3)) lN Value.none Value.none Value.none (Value.str (Str.ofString "termcore.params") (oN (nat_lit 207))) nN (Value.ref (oN (nat_lit 56))) Value.none (oN (nat_lit 0)))) #[]) :: (nat_lit 58, Obj.mk (Value.type "tuple") nN (Data.seq #[] (oN (nat_lit 0))) #[]) :: (nat_lit 60, Obj.mk (Value.type "tuple") nN (Data.seq #[Value.str (Str.ofString "self") (oN (nat_lit 259))] (oN (nat_lit 0))) #[]) :: (nat_lit 61, Obj.mk (Value.type "tuple") nN (Data.seq #[] (oN (nat_lit 0))) #[]) :: (nat_lit 63, Obj.mk (Value.type "code") nN (Data.fields #[Value.str (Str.ofString "close_part") (oN (nat_lit 256)), Value.str (Str.ofString "ParamReader.close_part") (oN (nat_lit 257)), Value.str (Str.ofString "/claim/cut.py") (oN (nat_lit 258)), Value.int 46 (oN (nat_lit 0)), Value.int 1 (oN (nat_lit 0)), Value.int 0 (oN (nat_lit 0)), Value.int 0 (oN (nat_lit 0)), Value.int 3 (oN (nat_lit 0)), Value.ref (oN (nat_lit 58)), Value.bool Bool.true, Value.int 181 (oN (nat_lit 0)), Value.ref (oN (nat_lit 59)), Value.none, Value.ref (oN (nat_lit 60)), Value.ref (oN (nat_lit 61)), Value.ref (oN (nat_lit 62)), Value.int 260 (oN (nat_lit 0)), Value.int 46 (oN (nat_lit 0)), Value.str (Str.ofString "/claim/cut.py") (oN (nat_lit 261))]) #[]) :: (nat_lit 64, Obj.mk (Value.type "function") nN (Data.func (FuncData.mk (Str.ofString "close_part") (Str.ofString "ParamReader.close_part") a64 (FuncBody.stmts b64) s71 (oN (nat_lit 3)) lN Value.none Value.none Value.none (Value.str (Str.ofString "termcore.params") (oN (nat_lit 207))) nN (Value.ref (oN (nat_lit 63))) Value.none (oN (nat_lit 0)))) #[]) :: (nat_lit 65, Obj.mk (Value.type "tuple") nN (Data.seq #[] (oN (nat_lit 0))) #[]) :: (nat_lit 67, Obj.mk (Value.type "tuple") nN (Data.seq #[Value.str (Str.ofString "self") (oN (nat_lit 266))] (oN (nat_lit 0))) #[]) :: (nat_lit 68, Obj.mk (Value.type "tuple") nN (Data.seq #[] (oN (nat_lit 0))) #[]) :: (nat_lit 70, Obj.mk (Value.type "code") nN (Data.fields #[Value.str (Str.ofString "close_parameter") (oN (nat_lit 263)), Value.str (Str.ofString "ParamReader.close_parameter") (oN (nat_lit 264)), Value.str (Str.ofString "/claim/cut.py") (oN (nat_lit 265)), Value.int 51 (oN (nat_lit 0)), Value.int 1 (oN (nat_lit 0)), Value.int 0 (oN (nat_lit 0)), Value.int 0 (oN (nat_lit 0)), Value.int 3 (oN (nat_lit 0)), Value.ref (oN (nat_lit 65)), Value.bool Bool.true, Value.int 181 (oN (nat_lit 0)), Value.ref (oN (nat_lit 66)), Value.none, Value.ref (oN (nat_lit 67)), Value.ref (oN (nat_lit 68)), Value.ref (oN (nat_lit 69)), Value.int 267 (oN (nat_lit 0)), Value.int 51 (oN (nat_lit 0)), Value.str (Str.ofString "/claim/cut.py") (oN (nat_lit 268))]) #[]) :: (nat_lit 71, Obj.mk (Value.type "function") nN (Data.func (FuncData.mk (Str.ofString "close_parameter") (Str.ofString "ParamReader.close_parameter") a71 (FuncBody.stmts b71) s71 (oN (nat_lit 3)) lN Value.none Value.none Value.none (Value.str (Str.ofString "termcore.params") (oN (nat_lit 207))) nN (Value.ref (oN (nat_lit 70))) Value.none (oN (nat_lit 0)))) #[]) :: (nat_lit 72, Obj.mk (Value.type "tuple") nN (Data.seq #[] (oN (nat_lit 0))) #[]) :: (nat_lit 75, Obj.mk (Value.type "code") nN (Data.fields #[Value.str (Str.ofString "params") (oN (nat_lit 270)), Value.str (Str.ofString "ParamReader.params") (oN (nat_lit 271)), Value.str (Str.ofString "/claim/cut.py") (oN (nat_lit 272)), Value.int 56 (oN (nat_lit 0)), Value.int 1 (oN (nat_lit 0)), Value.int 0 (oN (nat_lit 0)), Value.int 0 (oN (nat_lit 0)), Value.int 3 (oN (nat_lit 0)), Value.ref (oN (nat_lit 72)), Value.bool Bool.true, Value.int 181 (oN (nat_lit 0)), Value.ref (oN (nat_lit 73)), Value.none, Value.none, Value.none, Value.ref (oN (nat_lit 74)), Value.int 273 (oN (nat_lit 0)), Value.int 56 (oN (nat_lit 0)), Value.str (Str.ofString "/claim/cut.py") (oN (nat_lit 274))]) #[]) :: (nat_lit 76, Obj.mk (Value.type "function") nN (Data.func (FuncData.mk (Str.ofString "params") (Str.ofString "ParamReader.params") a76 (FuncBody.stmts b76) s76 (oN (nat_lit 3)) lN Value.none Value.none Value.none (Value.str (Str.ofString "termcore.params") (oN (nat_lit 207))) nN (Value.ref (oN (nat_lit 75))) Value.none (oN (nat_lit 0)))) #[]) :: (nat_lit 77, Obj.mk (Value.type "tuple") nN (Data.seq #[Value.str (Str.ofString "found") (oN (nat_lit 276)), Value.str (Str.ofString "is_begun") (oN (nat_lit 277)), Value.str (Str.ofString "limit") (oN (nat_lit 278)), Value.str (Str.ofString "most") (oN (nat_lit 279)), Value.str (Str.ofString "parts") (oN (nat_lit 280)), Value.str (Str.ofString "value") (oN (nat_lit 281))] (oN (nat_lit 0))) #[]) :: (nat_lit 78, Obj.mk (Value.type "dict") nN (Data.dict #[DictEntry.mk (PyData.keyHash P (Str.ofString "__module__")) (Value.str (Str.ofString "__module__") (oN (nat_lit 224))) (Value.str (Str.ofString "termcore.params") (oN (nat_lit 207))), DictEntry.mk (PyData.keyHash P (Str.ofString "__firstlineno__")) (Value.str (Str.ofString "__firstlineno__") (oN (nat_lit 228))) (Value.int 19 (oN (nat_lit 227))), DictEntry.mk (PyData.keyHash P (Str.ofString "__init__")) (Value.str (Str.ofString "__init__") (oN (nat_lit 239))) (Value.ref (oN (nat_lit 43))), DictEntry.mk (PyData.keyHash P (Str.ofString "clear")) (Value.str (Str.ofString "clear") (oN (nat_lit 246))) (Value.ref (oN (nat_lit 50))), DictEntry.mk (PyData.keyHash P (Str.ofString "put")) (Value.str (Str.ofString "put") (oN (nat_lit 255))) (Value.ref (oN (nat_lit 57))), DictEntry.mk (PyData.keyHash P (Str.ofString "close_part")) (Value.str (Str.ofString "close_part") (oN (nat_lit 262))) (Value.ref (oN (nat_lit 64))), DictEntry.mk (PyData.keyHash P (Str.ofString "close_parameter")) (Value.str (Str.ofString "close_parameter") (oN (nat_lit 269))) (Value.ref (oN (nat_lit 71))), DictEntry.mk (PyData.keyHash P (Str.ofString "params")) (Value.str (Str.ofString "params") (oN (nat_lit 275))) (Value.ref (oN (nat_lit 76))), DictEntry.mk (PyData.keyHash P (Str.ofString "__static_attributes__")) (Value.str (Str.ofString "__static_attributes__") (oN (nat_lit 282))) (Value.ref (oN (nat_lit 77))), DictEntry.mk (PyData.keyHash P (Str.ofString "__dict__")) (Value.str (Str.ofString "__dict__") (oN (nat_lit 284))) (Value.ref (oN (nat_lit 80))), DictEntry.mk (PyData.keyHash P (Str.ofString "__weakref__")) (Value.str (Str.ofString "__weakref__") (oN (nat_lit 286))) (Value.ref (oN (nat_lit 81))), DictEntry.mk (PyData.keyHash P (Str.ofString "__doc__")) (Value.str (Str.ofString "__doc__") (oN (nat_lit 287))) Value.none] (oN (nat_lit 4))) #[]) :: (nat_lit 79, Obj.mk (Value.type "type") nN (Data.cls (ClassData.mk (Str.ofString "ParamReader") [Value.type "object"] [Value.ref (oN (nat_lit 79)), Value.type "object"] (oN (nat_lit 78)) (Str.ofString "ParamReader") Bool.true [] [] Bool.false none Bool.false)) #[none, none, Option.some (Value.str (Str.ofString "ParamReader") (oN (nat_lit 217))), Option.some (Value.str (Str.ofString "ParamReader") (oN (nat_lit 225))), Option.some (Value.builtin "object.__new__"), Option.some (Value.bool Bool.true)]) :: (nat_lit 80, Obj.mk (Value.type "getset_descriptor") nN (Data.fields #[Value.str (Str.ofString "__dict__") (oN (nat_lit 283)), Value.ref (oN (nat_lit 79)), Value.builtin "function.__dict__", Value.builtin "function.__dict__#set"]) #[]) :: (nat_lit 81, Obj.mk (Value.type "getset_descriptor") nN (Data.fields #[Value.str (Str.ofString "__weakref__") (oN (nat_lit 285)), Value.ref (oN (nat_lit 79)), Value.builtin "ExceptionGroup.__weakref__", Value.none]) #[]) :: (nat_lit 84, Obj.mk (Value.type "tuple") nN (Data.seq #[Value.int 32 (oN (nat_lit 290)), Value.int 65535 (oN (nat_lit 291))] (oN (nat_lit 0))) #[]) :: (nat_lit 85, Obj.mk (Value.type "tuple") nN (Data.seq #[] (oN (nat_lit 0))) #[]) :: (nat_lit 87, Obj.mk (Value.type "tuple") nN (Data.seq #[Value.str (Str.ofString "octets") (oN (nat_lit 295)), Value.str (Str.ofString "most") (oN (nat_lit 296)), Value.str (Str.ofString "limit") (oN (nat_lit 297)), Value.str (Str.ofString "reader") (oN (nat_lit 298)), Value.str (Str.ofString "octet") (oN (nat_lit 299))] (oN (nat_lit 0))) #[]) :: (nat_lit 88, Obj.mk (Value.type "tuple") nN (Data.seq #[] (oN (nat_lit 0))) #[]) :: (nat_lit 90, Obj.mk (Value.type "code") nN (Data.fields #[Value.str (Str.ofString "read_params") (oN (nat_lit 292)), Value.str (Str.ofString "read_params") (oN (nat_lit 293)), Value.str (Str.ofString "/claim/cut.py") (oN (nat_lit 294)), Value.int 66 (oN (nat_lit 0)), Value.int 3 (oN (nat_lit 0)), Value.int 0 (oN (nat_lit 0)), Value.int 0 (oN (nat_lit 0)), Value.int 3 (oN (nat_lit 0)), Value.ref (oN (nat_lit 85)), Value.bool Bool.true, Value.int 181 (oN (nat_lit 0)), Value.ref (oN (nat_lit 86)), Value.none, Value.ref (oN (nat_lit 87)), Value.ref (oN (nat_lit 88)), Value.ref (oN (nat_lit 89)), Value.int 300 (oN (nat_lit 0)), Value.int 66 (oN (nat_lit 0)), Value.str (Str.ofString "/claim/cut.py") (oN (nat_lit 301))]) #[]) :: (nat_lit 91, Obj.mk (Value.type "function") nN (Data.func (FuncData.mk (Str.ofString "read_params") (Str.ofString "read_params") a91 (FuncBody.stmts b91) s91 (oN (nat_lit 3)) lN (Value.ref (oN (nat_lit 84))) Value.none Value.none (Value.str (Str.ofString "termcore.params") (oN (nat_lit 207))) nN (Value.ref (oN (nat_lit 90))) Value.none (oN (nat_lit 0)))) #[]) :: (nat_lit 92, Obj.mk (Value.type "tuple") nN (Data.seq #[] (oN (nat_lit 0))) #[]) :: (nat_lit 94, Obj.mk (Value.type "tuple") nN (Data.seq #[Value.str (Str.ofString "value") (oN (nat_lit 306))] (oN (nat_lit 0))) #[]) :: (nat_lit 95, Obj.mk (Value.type "tuple") nN (Data.seq #[] (oN (nat_lit 0))) #[]) :: (nat_lit 97, Obj.mk (Value.type "code") nN (Data.fields #[Value.str (Str.ofString "part_octets") (oN (nat_lit 303)), Value.str (Str.ofString "part_octets") (oN (nat_lit 304)), Value.str (Str.ofString "/claim/cut.py") (oN (nat_lit 305)), Value.int 71 (oN (nat_lit 0)), Value.int 1 (oN (nat_lit 0)), Value.int 0 (oN (nat_lit 0)), Value.int 0 (oN (nat_lit 0)), Value.int 3 (oN (nat_lit 0)), Value.ref (oN (nat_lit 92)), Value.bool Bool.true, Value.int 181 (oN (nat_lit 0)), Value.ref (oN (nat_lit 93)), Value.none, Value.ref (oN (nat_lit 94)), Value.ref (oN (nat_lit 95)), Value.ref (oN (nat_lit 96)), Value.int 307 (oN (nat_lit 0)), Value.int 71 (oN (nat_lit 0)), Value.str (Str.ofString "/claim/cut.py") (oN (nat_lit 308))]) #[]) :: (nat_lit 98, Obj.mk (Value.type "function") nN (Data.func (FuncData.mk (Str.ofString "part_octets") (Str.ofString "part_octets") a98 (FuncBody.stmts b98) s98 (oN (nat_lit 3)) lN Value.none Value.none Value.none (Value.str (Str.ofString "termcore.params") (oN (nat_lit 207))) nN (Value.ref (oN (nat_lit 97))) Value.none (oN (nat_lit 0)))) #[]) :: (nat_lit 99, Obj.mk (Value.type "tuple") nN (Data.seq #[] (oN (nat_lit 0))) #[]) :: (nat_lit 102, Obj.mk (Value.type "code") nN (Data.fields #[Value.str (Str.ofString "params_octets") (oN (nat_lit 310)), Value.str (Str.ofString "params_octets") (oN (nat_lit 311)), Value.str (Str.ofString "/claim/cut.py") (oN (nat_lit 312)), Value.int 73 (oN (nat_lit 0)), Value.int 1 (oN (nat_lit 0)), Value.int 0 (oN (nat_lit 0)), Value.int 0 (oN (nat_lit 0)), Value.int 3 (oN (nat_lit 0)), Value.ref (oN (nat_lit 99)), Value.bool Bool.true, Value.int 181 (oN (nat_lit 0)), Value.ref (oN (nat_lit 100)), Value.none, Value.none, Value.none, Value.ref (oN (nat_lit 101)), Value.int 313 (oN (nat_lit 0)), Value.int 73 (oN (nat_lit 0)), Value.str (Str.ofString "/claim/cut.py") (oN (nat_lit 314))]) #[]) :: (nat_lit 103, Obj.mk (Value.type "function") nN (Data.func (FuncData.mk (Str.ofString "params_octets") (Str.ofString "params_octets") a103 (FuncBody.stmts b103) s103 (oN (nat_lit 3)) lN Value.none Value.none Value.none (Value.str (Str.ofString "termcore.params") (oN (nat_lit 207))) nN (Value.ref (oN (nat_lit 102))) Value.none (oN (nat_lit 0)))) #[]) :: (nat_lit 104, Obj.mk (Value.type "tuple") nN (Data.seq #[] (oN (nat_lit 0))) #[]) :: (nat_lit 107, Obj.mk (Value.type "code") nN (Data.fields #[Value.str (Str.ofString "params_of") (oN (nat_lit 316)), Value.str (Str.ofString "params_of") (oN (nat_lit 317)), Value.str (Str.ofString "/claim/cut.py") (oN (nat_lit 318)), Value.int 75 (oN (nat_lit 0)), Value.int 1 (oN (nat_lit 0)), Value.int 0 (oN (nat_lit 0)), Value.int 0 (oN (nat_lit 0)), Value.int 3 (oN (nat_lit 0)), Value.ref (oN (nat_lit 104)), Value.bool Bool.true, Value.int 181 (oN (nat_lit 0)), Value.ref (oN (nat_lit 105)), Value.none, Value.none, Value.none, Value.ref (oN (nat_lit 106)), Value.int 319 (oN (nat_lit 0)), Value.int 75 (oN (nat_lit 0)), Value.str (Str.ofString "/claim/cut.py") (oN (nat_lit 320))]) #[]) :: (nat_lit 108, Obj.mk (Value.type "function") nN (Data.func (FuncData.mk (Str.ofString "params_of") (Str.ofString "params_of") a108 (FuncBody.stmts b108) s108 (oN (nat_lit 3)) lN Value.none Value.none Value.none (Value.str (Str.ofString "termcore.params") (oN (nat_lit 207))) nN (Value.ref (oN (nat_lit 107))) Value.none (oN (nat_lit 0)))) #[]) :: (nat_lit 109, Obj.mk (Value.type "tuple") nN (Data.seq #[] (oN (nat_lit 0))) #[]) :: (nat_lit 111, Obj.mk (Value.type "tuple") nN (Data.seq #[Value.str (Str.ofString "params") (oN (nat_lit 325)), Value.str (Str.ofString "at") (oN (nat_lit 326)), Value.str (Str.ofString "default") (oN (nat_lit 327))] (oN (nat_lit 0))) #[]) :: (nat_lit 112, Obj.mk (Value.type "tuple") nN (Data.seq #[] (oN (nat_lit 0))) #[]) :: (nat_lit 114, Obj.mk (Value.type "code") nN (Data.fields #[Value.str (Str.ofString "plain_of") (oN (nat_lit 322)), Value.str (Str.ofString "plain_of") (oN (nat_lit 323)), Value.str (Str.ofString "/claim/cut.py") (oN (nat_lit 324)), Value.int 77 (oN (nat_lit 0)), Value.int 3 (oN (nat_lit 0)), Value.int 0 (oN (nat_lit 0)), Value.int 0 (oN (nat_lit 0)), Value.int 3 (oN (nat_lit 0)), Value.ref (oN (nat_lit 109)), Value.bool Bool.true, Value.int 181 (oN (nat_lit 0)), Value.ref (oN (nat_lit 110)), Value.none, Value.ref (oN (nat_lit 111)), Value.ref (oN (nat_lit 112)), Value.ref (oN (nat_lit 113)), Value.int 328 (oN (nat_lit 0)), Value.int 77 (oN (nat_lit 0)), Value.str (Str.ofString "/claim/cut.py") (oN (nat_lit 329))]) #[]) :: (nat_lit 115, Obj.mk (Value.type "function") nN (Data.func (FuncData.mk (Str.ofString "plain_of") (Str.ofString "plain_of") a115 (FuncBody.stmts b115) s115 (oN (nat_lit 3)) lN Value.none Value.none Value.none (Value.str (Str.ofString "termcore.params") (oN (nat_lit 207))) nN (Value.ref (oN (nat_lit 114))) Value.none (oN (nat_lit 0)))) #[]) :: (nat_lit 116, Obj.mk (Value.type "tuple") nN (Data.seq #[] (oN (nat_lit 0))) #[]) :: (nat_lit 118, Obj.mk (Value.type "tuple") nN (Data.seq #[Value.str (Str.ofString "params") (oN (nat_lit 334)), Value.str (Str.ofString "at") (oN (nat_lit 335)), Value.str (Str.ofString "default") (oN (nat_lit 336)), Value.str (Str.ofString "found") (oN (nat_lit 337))] (oN (nat_lit 0))) #[]) :: (nat_lit 119, Obj.mk (Value.type "tuple") nN (Data.seq #[] (oN (nat_lit 0))) #[]) :: (nat_lit 121, Obj.mk (Value.type "code") nN (Data.fields #[Value.str (Str.ofString "value_of") (oN (nat_lit 331)), Value.str (Str.ofString "value_of") (oN (nat_lit 332)), Value.str (Str.ofString "/claim/cut.py") (oN (nat_lit 333)), Value.int 81 (oN (nat_lit 0)), Value.int 3 (oN (nat_lit 0)), Value.int 0 (oN (nat_lit 0)), Value.int 0 (oN (nat_lit 0)), Value.int 3 (oN (nat_lit 0)), Value.ref (oN (nat_lit 116)), Value.bool Bool.true, Value.int 181 (oN (nat_lit 0)), Value.ref (oN (nat_lit 117)), Value.none, Value.ref (oN (nat_lit 118)), Value.ref (oN (nat_lit 119)), Value.ref (oN (nat_lit 120)), Value.int 338 (oN (nat_lit 0)), Value.int 81 (oN (nat_lit 0)), Value.str (Str.ofString "/claim/cut.py") (oN (nat_lit 339))]) #[]) :: (nat_lit 122, Obj.mk (Value.type "function") nN (Data.func (FuncData.mk (Str.ofString "value_of") (Str.ofString "value_of") a122 (FuncBody.stmts b122) s122 (oN (nat_lit 3)) lN Value.none Value.none Value.none (Value.str (Str.ofString "termcore.params") (oN (nat_lit 207))) nN (Value.ref (oN (nat_lit 121))) Value.none (oN (nat_lit 0)))) #[]) :: (nat_lit 123, Obj.mk (Value.type "tuple") nN (Data.seq #[] (oN (nat_lit 0))) #[]) :: (nat_lit 125, Obj.mk (Value.type "tuple") nN (Data.seq #[Value.str (Str.ofString "params") (oN (nat_lit 344)), Value.str (Str.ofString "at") (oN (nat_lit 345)), Value.str (Str.ofString "default") (oN (nat_lit 346)), Value.str (Str.ofString "least") (oN (nat_lit 347)), Value.str (Str.ofString "most") (oN (nat_lit 348))] (oN (nat_lit 0))) #[]) :: (nat_lit 126, Obj.mk (Value.type "tuple") nN (Data.seq #[] (oN (nat_lit 0))) #[]) :: (nat_lit 128, Obj.mk (Value.type "code") nN (Data.fields #[Value.str (Str.ofString "value_within") (oN (nat_lit 341)), Value.str (Str.ofString "value_within") (oN (nat_lit 342)), Value.str (Str.ofString "/claim/cut.py") (oN (nat_lit 343)), Value.int 84 (oN (nat_lit 0)), Value.int 5 (oN (nat_lit 0)), Value.int 0 (oN (nat_lit 0)), Value.int 0 (oN (nat_lit 0)), Value.int 3 (oN (nat_lit 0)), Value.ref (oN (nat_lit 123)), Value.bool Bool.true, Value.int 181 (oN (nat_lit 0)), Value.ref (oN (nat_lit 124)), Value.none, Value.ref (oN (nat_lit 125)), Value.ref (oN (nat_lit 126)), Value.ref (oN (nat_lit 127)), Value.int 349 (oN (nat_lit 0)), Value.int 84 (oN (nat_lit 0)), Value.str (Str.ofString "/claim/cut.py") (oN (nat_lit 350))]) #[]) :: (nat_lit 129, Obj.mk (Value.type "function") nN (Data.func (FuncData.mk (Str.ofString "value_within") (Str.ofString "value_within") a129 (FuncBody.stmts b129) s129 (oN (nat_lit 3)) lN Value.none Value.none Value.none (Value.str (Str.ofString "termcore.params") (oN (nat_lit 207))) nN (Value.ref (oN (nat_lit 128))) Value.none (oN (nat_lit 0)))) #[]) :: (nat_lit 130, Obj.mk (Value.type "tuple") nN (Data.seq #[] (oN (nat_lit 0))) #[]) :: (nat_lit 132, Obj.mk (Value.type "tuple") nN (Data.seq #[Value.str (Str.ofString "params") (oN (nat_lit 355)), Value.str (Str.ofString "at") (oN (nat_lit 356)), Value.str (Str.ofString "number") (oN (nat_lit 357)), Value.str (Str.ofString "default") (oN (nat_lit 358))] (oN (nat_lit 0))) #[]) :: (nat_lit 133, Obj.mk (Value.type "tuple") nN (Data.seq #[] (oN (nat_lit 0))) #[]) :: (nat_lit 135, Obj.mk (Value.type "code") nN (Data.fields #[Value.str (Str.ofString "part_of") (oN (nat_lit 352)), Value.str (Str.ofString "part_of") (oN (nat_lit 353)), Value.str (Str.ofString "/claim/cut.py") (oN (nat_lit 354)), Value.int 86 (oN (nat_lit 0)), Value.int 4 (oN (nat_lit 0)), Value.int 0 (oN (nat_lit 0)), Value.int 0 (oN (nat_lit 0)), Value.int 3 (oN (nat_lit 0)), Value.ref (oN (nat_lit 130)), Value.bool Bool.true, Value.int 181 (oN (nat_lit 0)), Value.ref (oN (nat_lit 131)), Value.none, Value.ref (oN (nat_lit 132)), Value.ref (oN (nat_lit 133)), Value.ref (oN (nat_lit 134)), Value.int 359 (oN (nat_lit 0)), Value.int 86 (oN (nat_lit 0)), Value.str (Str.ofString "/claim/cut.py") (oN (nat_lit 360))]) #[]) :: (nat_lit 136, Obj.mk (Value.type "function") nN (Data.func (FuncData.mk (Str.ofString "part_of") (Str.ofString "part_of") a136 (FuncBody.stmts b136) s136 (oN (nat_lit 3)) lN Value.none Value.none Value.none (Value.str (Str.ofString "termcore.params") (oN (nat_lit 207))) nN (Value.ref (oN (nat_lit 135))) Value.none (oN (nat_lit 0)))) #[]) :: (nat_lit 137, Obj.mk (Value.type "tuple") nN (Data.seq #[] (oN (nat_lit 0))) #[]) :: (nat_lit 139, Obj.mk (Value.type "tuple") nN (Data.seq #[Value.str (Str.ofString "params") (oN (nat_lit 365)), Value.str (Str.ofString "at") (oN (nat_lit 366))] (oN (nat_lit 0))) #[]) :: (nat_lit 140, Obj.mk (Value.type "tuple") nN (Data.seq #[] (oN (nat_lit 0))) #[]) :: (nat_lit 142, Obj.mk (Value.type "code") nN (Data.fields #[Value.str (Str.ofString "has_parts") (oN (nat_lit 362)), Value.str (Str.ofString "has_parts") (oN (nat_lit 363)), Value.str (Str.ofString "/claim/cut.py") (oN (nat_lit 364)), Value.int 90 (oN (nat_lit 0)), Value.int 2 (oN (nat_lit 0)), Value.int 0 (oN (nat_lit 0)), Value.int 0 (oN (nat_lit 0)), Value.int 3 (oN (nat_lit 0)), Value.ref (oN (nat_lit 137)), Value.bool Bool.true, Value.int 181 (oN (nat_lit 0)), Value.ref (oN (nat_lit 138)), Value.none, Value.ref (oN (nat_lit 139)), Value.ref (oN (nat_lit 140)), Value.ref (oN (nat_lit 141)), Value.int 367 (oN (nat_lit 0)), Value.int 90 (oN (nat_lit 0)), Value.str (Str.ofString "/claim/cut.py") (oN (nat_lit 368))]) #[]) :: (nat_lit 143, Obj.mk (Value.type "function") nN (Data.func (FuncData.mk (Str.ofString "has_parts") (Str.ofString "has_parts") a143 (FuncBody.stmts b143) s143 (oN (nat_lit 3)) lN Value.none Value.none Value.none (Value.str (Str.ofString "termcore.params") (oN (nat_lit 207))) nN (Value.ref (oN (nat_lit 142))) Value.none (oN (nat_lit 0)))) #[]) :: (nat_lit 144, Obj.mk (Value.type "tuple") nN (Data.seq #[] (oN (nat_lit 0))) #[]) :: (nat_lit 147, Obj.mk (Value.type "code") nN (Data.fields #[Value.str (Str.ofString "values_of") (oN (nat_lit 370)), Value.str (Str.ofString "values_of") (oN (nat_lit 371)), Value.str (Str.ofString "/claim/cut.py") (oN (nat_lit 372)), Value.int 92 (oN (nat_lit 0)), Value.int 1 (oN (nat_lit 0)), Value.int 0 (oN (nat_lit 0)), Value.int 0 (oN (nat_lit 0)), Value.int 3 (oN (nat_lit 0)), Value.ref (oN (nat_lit 144)), Value.bool Bool.true, Value.int 181 (oN (nat_lit 0)), Value.ref (oN (nat_lit 145)), Value.none, Value.none, Value.none, Value.ref (oN (nat_lit 146)), Value.int 373 (oN (nat_lit 0)), Value.int 92 (oN (nat_lit 0)), Value.str (Str.ofString "/claim/cut.py") (oN (nat_lit 374))]) #[]) :: (nat_lit 148, Obj.mk (Value.type "function") nN (Data.func (FuncData.mk (Str.ofString "values_of") (Str.ofString "values_of") a148 (FuncBody.stmts b148) s148 (oN (nat_lit 3)) lN Value.none Value.none Value.none (Value.str (Str.ofString "termcore.params") (oN (nat_lit 207))) nN (Value.ref (oN (nat_lit 147))) Value.none (oN (nat_lit 0)))) #[]) :: (nat_lit 149, Obj.mk (Value.type "tuple") nN (Data.seq #[] (oN (nat_lit 0))) #[]) :: (nat_lit 151, Obj.mk (Value.type "tuple") nN (Data.seq #[Value.str (Str.ofString "params") (oN (nat_lit 379))] (oN (nat_lit 0))) #[]) :: (nat_lit 152, Obj.mk (Value.type "tuple") nN (Data.seq #[] (oN (nat_lit 0))) #[]) :: (nat_lit 154, Obj.mk (Value.type "code") nN (Data.fields #[Value.str (Str.ofString "params_shown") (oN (nat_lit 376)), Value.str (Str.ofString "params_shown") (oN (nat_lit 377)), Value.str (Str.ofString "/claim/cut.py") (oN (nat_lit 378)), Value.int 94 (oN (nat_lit 0)), Value.int 1 (oN (nat_lit 0)), Value.int 0 (oN (nat_lit 0)), Value.int 0 (oN (nat_lit 0)), Value.int 3 (oN (nat_lit 0)), Value.ref (oN (nat_lit 149)), Value.bool Bool.true, Value.int 181 (oN (nat_lit 0)), Value.ref (oN (nat_lit 150)), Value.none, Value.ref (oN (nat_lit 151)), Value.ref (oN (nat_lit 152)), Value.ref (oN (nat_lit 153)), Value.int 380 (oN (nat_lit 0)), Value.int 94 (oN (nat_lit 0)), Value.str (Str.ofString "/claim/cut.py") (oN (nat_lit 381))]) #[]) :: (nat_lit 155, Obj.mk (Value.type "function") nN (Data.func (FuncData.mk (Str.ofString "params_shown") (Str.ofString "params_shown") a155 (FuncBody.stmts b155) s155 (oN (nat_lit 3)) lN Value.none Value.none Value.none (Value.str (Str.ofString "termcore.params") (oN (nat_lit 207))) nN (Value.ref (oN (nat_lit 154))) Value.none (oN (nat_lit 0)))) #[]) :: (nat_lit 156, Obj.mk (Value.type "tuple") nN (Data.seq #[] (oN (nat_lit 0))) #[]) :: (nat_lit 159, Obj.mk (Value.type "code") nN (Data.fields #[Value.str (Str.ofString "params_trimmed") (oN (nat_lit 383)), Value.str (Str.ofString "params_trimmed") (oN (nat_lit 384)), Value.str (Str.ofString "/claim/cut.py") (oN (nat_lit 385)), Value.int 96 (oN (nat_lit 0)), Value.int 1 (oN (nat_lit 0)), Value.int 0 (oN (nat_lit 0)), Value.int 0 (oN (nat_lit 0)), Value.int 3 (oN (nat_lit 0)), Value.ref (oN (nat_lit 156)), Value.bool Bool.true, Value.int 181 (oN (nat_lit 0)), Value.ref (oN (nat_lit 157)), Value.none, Value.none, Value.none, Value.ref (oN (nat_lit 158)), Value.int 386 (oN (nat_lit 0)), Value.int 96 (oN (nat_lit 0)), Value.str (Str.ofString "/claim/cut.py") (oN (nat_lit 387))]) #[]) :: (nat_lit 160, Obj.mk (Value.type "function") nN (Data.func (FuncData.mk (Str.ofString "params_trimmed") (Str.ofString "params_trimmed") a160 (FuncBody.stmts b160) s160 (oN (nat_lit 3)) lN Value.none Value.none Value.none (Value.str (Str.ofString "termcore.params") (oN (nat_lit 207))) nN (Value.ref (oN (nat_lit 159))) Value.none (oN (nat_lit 0)))) #[]) :: (nat_lit 161, Obj.mk (Value.type "tuple") nN (Data.seq #[] (oN (nat_lit 0))) #[]) :: (nat_lit 163, Obj.mk (Value.type "tuple") nN (Data.seq #[Value.str (Str.ofString "one") (oN (nat_lit 392)), Value.str (Str.ofString "other") (oN (nat_lit 393))] (oN (nat_lit 0))) #[]) :: (nat_lit 164, Obj.mk (Value.type "tuple") nN (Data.seq #[] (oN (nat_lit 0))) #[]) :: (nat_lit 166, Obj.mk (Value.type "code") nN (Data.fields #[Value.str (Str.ofString "are_like_params") (oN (nat_lit 389)), Value.str (Str.ofString "are_like_params") (oN (nat_lit 390)), Value.str (Str.ofString "/claim/cut.py") (oN (nat_lit 391)), Value.int 101 (oN (nat_lit 0)), Value.int 2 (oN (nat_lit 0)), Value.int 0 (oN (nat_lit 0)), Value.int 0 (oN (nat_lit 0)), Value.int 3 (oN (nat_lit 0)), Value.ref (oN (nat_lit 161)), Value.bool Bool.true, Value.int 181 (oN (nat_lit 0)), Value.ref (oN (nat_lit 162)), Value.none, Value.ref (oN (nat_lit 163)), Value.ref (oN (nat_lit 164)), Value.ref (oN (nat_lit 165)), Value.int 394 (oN (nat_lit 0)), Value.int 101 (oN (nat_lit 0)), Value.str (Str.ofString "/claim/cut.py") (oN (nat_lit 395))]) #[]) :: (nat_lit 167, Obj.mk (Value.type "function") nN (Data.func (FuncData.mk (Str.ofString "are_like_params") (Str.ofString "are_like_params") a167 (FuncBody.stmts b167) s167 (oN (nat_lit 3)) lN Value.none Value.none Value.none (Value.str (Str.ofString "termcore.params") (oN (nat_lit 207))) nN (Value.ref (oN (nat_lit 166))) Value.none (oN (nat_lit 0)))) #[]) :: (nat_lit 168, Obj.mk (Value.type "tuple") nN (Data.seq #[Value.bytes #[48] (oN (nat_lit 399)), Value.bytes #[49] (oN (nat_lit 400)), Value.bytes #[55] (oN (nat_lit 401)), Value.bytes #[50, 53] (oN (nat_lit 402)), Value.bytes #[48, 48, 55] (oN (nat_lit 403)), Value.bytes #[51, 48, 48] (oN (nat_lit 404)), Value.bytes #[55, 48, 48, 48, 48] (oN (nat_lit 405)), Value.bytes #[57, 57, 57, 57, 57, 57, 57, 57, 57, 57, 57, 57] (oN (nat_lit 406))] (oN (nat_lit 0))) #[]) :: (nat_lit 169, Obj.mk (Value.type "tuple") nN (Data.seq #[Value.bytes #[120] (oN (nat_lit 408)), Value.bytes #[32] (oN (nat_lit 409)), Value.bytes #[63] (oN (nat_lit 410)), Value.bytes #[27] (oN (nat_lit 411))] (oN (nat_lit 0))) #[]) :: (nat_lit 170, Obj.mk (Value.type "tuple") nN (Data.seq #[] (oN (nat_lit 0))) #[]) :: (nat_lit 172, Obj.mk (Value.type "tuple") nN (Data.seq #[Value.str (Str.ofString "well") (oN (nat_lit 416)), Value.str (Str.ofString "size") (oN (nat_lit 417)), Value.str (Str.ofString "numbers") (oN (nat_lit 418)), Value.str (Str.ofString "at") (oN (nat_lit 419)), Value.str (Str.ofString "stir") (oN (nat_lit 420)), Value.str (Str.ofString "pick") (oN (nat_lit 421))] (oN (nat_lit 0))) #[]) :: (nat_lit 173, Obj.mk (Value.type "tuple") nN (Data.seq #[] (oN (nat_lit 0))) #[]) :: (nat_lit 175, Obj.mk (Value.type "code") nN (Data.fields #[Value.str (Str.ofString "_law_draw") (oN (nat_lit 413)), Value.str (Str.ofString "_law_draw") (oN (nat_lit 414)), Value.str (Str.ofString "/claim/cut.py") (oN (nat_lit 415)), Value.int 106 (oN (nat_lit 0)), Value.int 2 (oN (nat_lit 0)), Value.int 0 (oN (nat_lit 0)), Value.int 0 (oN (nat_lit 0)), Value.int 3 (oN (nat_lit 0)), Value.ref (oN (nat_lit 170)), Value.bool Bool.true, Value.int 181 (oN (nat_lit 0)), Value.ref (oN (nat_lit 171)), Value.none, Value.ref (oN (nat_lit 172)), Value.ref (oN (nat_lit 173)), Value.ref (oN (nat_lit 174)), Value.int 422 (oN (nat_lit 0)), Value.int 106 (oN (nat_lit 0)), Value.str (Str.ofString "/claim/cut.py") (oN (nat_lit 423))]) #[]) :: (nat_lit 176, Obj.mk (Value.type "function") nN (Data.func (FuncData.mk (Str.ofString "_law_draw") (Str.ofString "_law_draw") a176 (FuncBody.stmts b176) s176 (oN (nat_lit 3)) lN Value.none Value.none Value.none (Value.str (Str.ofString "law_og0240_01") (oN (nat_lit 397))) nN (Value.ref (oN (nat_lit 175))) Value.none (oN (nat_lit 0)))) #[]) :: (nat_lit 177, Obj.mk (Value.type "tuple") nN (Data.seq #[] (oN (nat_lit 0))) #[]) :: (nat_lit 179, Obj.mk (Value.type "tuple") nN (Data.seq #[Value.str (Str.ofString "well") (oN (nat_lit 428)), Value.str (Str.ofString "found") (oN (nat_lit 429)), Value.str (Str.ofString "turn") (oN (nat_lit 430)), Value.str (Str.ofString "kind") (oN (nat_lit 431))] (oN (nat_lit 0))) #[]) :: (nat_lit 180, Obj.mk (Value.type "tuple") nN (Data.seq #[] (oN (nat_lit 0))) #[]) :: (nat_lit 182, Obj.mk (Value.type "code") nN (Data.fields #[Value.str (Str.ofString "_law_octets") (oN (nat_lit 425)), Value.str (Str.ofString "_law_octets") (oN (nat_lit 426)), Value.str (Str.ofString "/claim/cut.py") (oN (nat_lit 427)), Value.int 111 (oN (nat_lit 0)), Value.int 1 (oN (nat_lit 0)), Value.int 0 (oN (nat_lit 0)), Value.int 0 (oN (nat_lit 0)), Value.int 3 (oN (nat_lit 0)), Value.ref (oN (nat_lit 177)), Value.bool Bool.true, Value.int 181 (oN (nat_lit 0)), Value.ref (oN (nat_lit 178)), Value.none, Value.ref (oN (nat_lit 179)), Value.ref (oN (nat_lit 180)), Value.ref (oN (nat_lit 181)), Value.int 432 (oN (nat_lit 0)), Value.int 111 (oN (nat_lit 0)), Value.str (Str.ofString "/claim/cut.py") (oN (nat_lit 433))]) #[]) :: (nat_lit 183, Obj.mk (Value.type "function") nN (Data.func (FuncData.mk (Str.ofString "_law_octets") (Str.ofString "_law_octets") a183 (FuncBody.stmts b183) s183 (oN (nat_lit 3)) lN Value.none Value.none Value.none (Value.str (Str.ofString "law_og0240_01") (oN (nat_lit 397))) nN (Value.ref (oN (nat_lit 182))) Value.none (oN (nat_lit 0)))) #[]) :: (nat_lit 184, Obj.mk (Value.type "tuple") nN (Data.seq #[] (oN (nat_lit 0))) #[]) :: (nat_lit 186, Obj.mk (Value.type "tuple") nN (Data.seq #[Value.str (Str.ofString "octets") (oN (nat_lit 438)), Value.str (Str.ofString "limit") (oN (nat_lit 439)), Value.str (Str.ofString "found") (oN (nat_lit 440)), Value.str (Str.ofString "octet") (oN (nat_lit 441))] (oN (nat_lit 0))) #[]) :: (nat_lit 187, Obj.mk (Value.type "tuple") nN (Data.seq #[] (oN (nat_lit 0))) #[]) :: (nat_lit 189, Obj.mk (Value.type "code") nN (Data.fields #[Value.str (Str.ofString "_law_value") (oN (nat_lit 435)), Value.str (Str.ofString "_law_value") (oN (nat_lit 436)), Value.str (Str.ofString "/claim/cut.py") (oN (nat_lit 437)), Value.int 122 (oN (nat_lit 0)), Value.int 2 (oN (nat_lit 0)), Value.int 0 (oN (nat_lit 0)), Value.int 0 (oN (nat_lit 0)), Value.int 3 (oN (nat_lit 0)), Value.ref (oN (nat_lit 184)), Value.bool Bool.true, Value.int 181 (oN (nat_lit 0)), Value.ref (oN (nat_lit 185)), Value.none, Value.ref (oN (nat_lit 186)), Value.ref (oN (nat_lit 187)), Value.ref (oN (nat_lit 188)), Value.int 442 (oN (nat_lit 0)), Value.int 122 (oN (nat_lit 0)), Value.str (Str.ofString "/claim/cut.py") (oN (nat_lit 443))]) #[]) :: (nat_lit 190, Obj.mk (Value.type "function") nN (Data.func (FuncData.mk (Str.ofString "_law_value") (Str.ofString "_law_value") a190 (FuncBody.stmts b190) s190 (oN (nat_lit 3)) lN Value.none Value.none Value.none (Value.str (Str.ofString "law_og0240_01") (oN (nat_lit 397))) nN (Value.ref (oN (nat_lit 189))) Value.none (oN (nat_lit 0)))) #[]) :: (nat_lit 191, Obj.mk (Value.type "tuple") nN (Data.seq #[] (oN (nat_lit 0))) #[]) :: (nat_lit 194, Obj.mk (Value.type "code") nN (Data.fields #[Value.str (Str.ofString "_law_read") (oN (nat_lit 445)), Value.str (Str.ofString "_law_read") (oN (nat_lit 446)), Value.str (Str.ofString "/claim/cut.py") (oN (nat_lit 447)), Value.int 129 (oN (nat_lit 0)), Value.int 3 (oN (nat_lit 0)), Value.int 0 (oN (nat_lit 0)), Value.int 0 (oN (nat_lit 0)), Value.int 3 (oN (nat_lit 0)), Value.ref (oN (nat_lit 191)), Value.bool Bool.true, Value.int 181 (oN (nat_lit 0)), Value.ref (oN (nat_lit 192)), Value.none, Value.none, Value.none, Value.ref (oN (nat_lit 193)), Value.int 448 (oN (nat_lit 0)), Value.int 129 (oN (nat_lit 0)), Value.str (Str.ofString "/claim/cut.py") (oN (nat_lit 449))]) #[]) :: (nat_lit 195, Obj.mk (Value.type "function") nN (Data.func (FuncData.mk (Str.ofString "_law_read") (Str.ofString "_law_read") a195 (FuncBody.stmts b195) s195 (oN (nat_lit 3)) lN Value.none Value.none Value.none (Value.str (Str.ofString "law_og0240_01") (oN (nat_lit 397))) nN (Value.ref (oN (nat_lit 194))) Value.none (oN (nat_lit 0)))) #[]) :: (nat_lit 196, Obj.mk (Value.type "tuple") nN (Data.seq #[] (oN (nat_lit 0))) #[]) :: (nat_lit 199, Obj.mk (Value.type "code") nN (Data.fields #[Value.str (Str.ofString "_law_written") (oN (nat_lit 451)), Value.str (Str.ofString "_law_written") (oN (nat_lit 452)), Value.str (Str.ofString "/claim/cut.py") (oN (nat_lit 453)), Value.int 135 (oN (nat_lit 0)), Value.int 1 (oN (nat_lit 0)), Value.int 0 (oN (nat_lit 0)), Value.int 0 (oN (nat_lit 0)), Value.int 3 (oN (nat_lit 0)), Value.ref (oN (nat_lit 196)), Value.bool Bool.true, Value.int 181 (oN (nat_lit 0)), Value.ref (oN (nat_lit 197)), Value.none, Value.none, Value.none, Value.ref (oN (nat_lit 198)), Value.int 454 (oN (nat_lit 0)), Value.int 135 (oN (nat_lit 0)), Value.str (Str.ofString "/claim/cut.py") (oN (nat_lit 455))]) #[]) :: (nat_lit 200, Obj.mk (Value.type "function") nN (Data.func (FuncData.mk (Str.ofString "_law_written") (Str.ofString "_law_written") a200 (FuncBody.stmts b200) s200 (oN (nat_lit 3)) lN Value.none Value.none Value.none (Value.str (Str.ofString "law_og0240_01") (oN (nat_lit 397))) nN (Value.ref (oN (nat_lit 199))) Value.none (oN (nat_lit 0)))) #[]) :: (nat_lit 201, Obj.mk (Value.type "tuple") nN (Data.seq #[] (oN (nat_lit 0))) #[]) :: (nat_lit 203, Obj.mk (Value.type "tuple") nN (Data.seq #[Value.str (Str.ofString "rows") (oN (nat_lit 460))] (oN (nat_lit 0))) #[]) :: (nat_lit 204, Obj.mk (Value.type "tuple") nN (Data.seq #[] (oN (nat_lit 0))) #[]) :: (nat_lit 206, Obj.mk (Value.type "code") nN (Data.fields #[Value.str (Str.ofString "_law_trimmed") (oN (nat_lit 457)), Value.str (Str.ofString "_law_trimmed") (oN (nat_lit 458)), Value.str (Str.ofString "/claim/cut.py") (oN (nat_lit 459)), Value.int 138 (oN (nat_lit 0)), Value.int 1 (oN (nat_lit 0)), Value.int 0 (oN (nat_lit 0)), Value.int 0 (oN (nat_lit 0)), Value.int 3 (oN (nat_lit 0)), Value.ref (oN (nat_lit 201)), Value.bool Bool.true, Value.int 181 (oN (nat_lit 0)), Value.ref (oN (nat_lit 202)), Value.none, Value.ref (oN (nat_lit 203)), Value.ref (oN (nat_lit 204)), Value.ref (oN (nat_lit 205)), Value.int 461 (oN (nat_lit 0)), Value.int 138 (oN (nat_lit 0)), Value.str (Str.ofString "/claim/cut.py") (oN (nat_lit 462))]) #[]) :: (nat_lit 207, Obj.mk (Value.type "function") nN (Data.func (FuncData.mk (Str.ofString "_law_trimmed") (Str.ofString "_law_trimmed") a207 (FuncBody.stmts b207) s207 (oN (nat_lit 3)) lN Value.none Value.none Value.none (Value.str (Str.ofString "law_og0240_01") (oN (nat_lit 397))) nN (Value.ref (oN (nat_lit 206))) Value.none (oN (nat_lit 0)))) #[]) :: (nat_lit 208, Obj.mk (Value.type "tuple") nN (Data.seq #[] (oN (nat_lit 0))) #[]) :: (nat_lit 210, Obj.mk (Value.type "tuple") nN (Data.seq #[Value.str (Str.ofString "octets") (oN (nat_lit 467)), Value.str (Str.ofString "most") (oN (nat_lit 468)), Value.str (Str.ofString "limit") (oN (nat_lit 469)), Value.str (Str.ofString "cut") (oN (nat_lit 470)), Value.str (Str.ofString "due") (oN (nat_lit 471)), Value.str (Str.ofString "reader") (oN (nat_lit 472)), Value.str (Str.ofString "at") (oN (nat_lit 473)), Value.str (Str.ofString "octet") (oN (nat_lit 474))] (oN (nat_lit 0))) #[]) :: (nat_lit 211, Obj.mk (Value.type "tuple") nN (Data.seq #[] (oN (nat_lit 0))) #[]) :: (nat_lit 213, Obj.mk (Value.type "code") nN (Data.fields #[Value.str (Str.ofString "_law_pieces_right") (oN (nat_lit 464)), Value.str (Str.ofString "_law_pieces_right") (oN (nat_lit 465)), Value.str (Str.ofString "/claim/cut.py") (oN (nat_lit 466)), Value.int 143 (oN (nat_lit 0)), Value.int 5 (oN (nat_lit 0)), Value.int 0 (oN (nat_lit 0)), Value.int 0 (oN (nat_lit 0)), Value.int 3 (oN (nat_lit 0)), Value.ref (oN (nat_lit 208)), Value.bool Bool.true, Value.int 181 (oN (nat_lit 0)), Value.ref (oN (nat_lit 209)), Value.none, Value.ref (oN (nat_lit 210)), Value.ref (oN (nat_lit 211)), Value.ref (oN (nat_lit 212)), Value.int 475 (oN (nat_lit 0)), Value.int 143 (oN (nat_lit 0)), Value.str (Str.ofString "/claim/cut.py") (oN (nat_lit 476))]) #[]) :: (nat_lit 214, Obj.mk (Value.type "function") nN (Data.func (FuncData.mk (Str.ofString "_law_pieces_right") (Str.ofString "_law_pieces_right") a214 (FuncBody.stmts b214) s214 (oN (nat_lit 3)) lN Value.none Value.none Value.none (Value.str (Str.ofString "law_og0240_01") (oN (nat_lit 397))) nN (Value.ref (oN (nat_lit 213))) Value.none (oN (nat_lit 0)))) #[]) :: (nat_lit 215, Obj.mk (Value.type "tuple") nN (Data.seq #[] (oN (nat_lit 0))) #[]) :: (nat_lit 217, Obj.mk (Value.type "tuple") nN (Data.seq #[Value.str (Str.ofString "rows") (oN (nat_lit 481)), Value.str (Str.ofString "at") (oN (nat_lit 482)), Value.str (Str.ofString "default") (oN (nat_lit 483)), Value.str (Str.ofString "least") (oN (nat_lit 484)), Value.str (Str.ofString "greatest") (oN (nat_lit 485)), Value.str (Str.ofString "row") (oN (nat_lit 486)), Value.str (Str.ofString "plain") (oN (nat_lit 487)), Value.str (Str.ofString "value") (oN (nat_lit 488)), Value.str (Str.ofString "number") (oN (nat_lit 489)), Value.str (Str.ofString "part") (oN (nat_lit 490))] (oN (nat_lit 0))) #[]) :: (nat_lit 218, Obj.mk (Value.type "tuple") nN (Data.seq #[] (oN (nat_lit 0))) #[]) :: (nat_lit 220, Obj.mk (Value.type "code") nN (Data.fields #[Value.str (Str.ofString "_law_place_right") (oN (nat_lit 478)), Value.str (Str.ofString "_law_place_right") (oN (nat_lit 479)), Value.str (Str.ofString "/claim/cut.py") (oN (nat_lit 480)), Value.int 156 (oN (nat_lit 0)), Value.int 5 (oN (nat_lit 0)), Value.int 0 (oN (nat_lit 0)), Value.int 0 (oN (nat_lit 0)), Value.int 3 (oN (nat_lit 0)), Value.ref (oN (nat_lit 215)), Value.bool Bool.true, Value.int 181 (oN (nat_lit 0)), Value.ref (oN (nat_lit 216)), Value.none, Value.ref (oN (nat_lit 217)), Value.ref (oN (nat_lit 218)), Value.ref (oN (nat_lit 219)), Value.int 491 (oN (nat_lit 0)), Value.int 156 (oN (nat_lit 0)), Value.str (Str.ofString "/claim/cut.py") (oN (nat_lit 492))]) #[]) :: (nat_lit 221, Obj.mk (Value.type "function") nN (Data.func (FuncData.mk (Str.ofString "_law_place_right") (Str.ofString "_law_place_right") a221 (FuncBody.stmts b221) s221 (oN (nat_lit 3)) lN Value.none Value.none Value.none (Value.str (Str.ofString "law_og0240_01") (oN (nat_lit 397))) nN (Value.ref (oN (nat_lit 220))) Value.none (oN (nat_lit 0)))) #[]) :: (nat_lit 222, Obj.mk (Value.type "tuple") nN (Data.seq #[] (oN (nat_lit 0))) #[]) :: (nat_lit 225, Obj.mk (Value.type "code") nN (Data.fields #[Value.str (Str.ofString "law") (oN (nat_lit 494)), Value.str (Str.ofString "law") (oN (nat_lit 495)), Value.str (Str.ofString "/claim/cut.py") (oN (nat_lit 496)), Value.int 169 (oN (nat_lit 0)), Value.int 1 (oN (nat_lit 0)), Value.int 0 (oN (nat_lit 0)), Value.int 0 (oN (nat_lit 0)), Value.int 3 (oN (nat_lit 0)), Value.ref (oN (nat_lit 222)), Value.bool Bool.true, Value.int 181 (oN (nat_lit 0)), Value.ref (oN (nat_lit 223)), Value.none, Value.none, Value.none, Value.ref (oN (nat_lit 224)), Value.int 497 (oN (nat_lit 0)), Value.int 169 (oN (nat_lit 0)), Value.str (Str.ofString "/claim/cut.py") (oN (nat_lit 498))]) #[]) :: (nat_lit 226, Obj.mk (Value.type "function") nN (Data.func (FuncData.mk (Str.ofString "law") (Str.ofString "law") a226 (FuncBody.stmts b226) s226 (oN (nat_lit 3)) lN Value.none Value.none Value.none (Value.str (Str.ofString "law_og0240_01") (oN (nat_lit 397))) nN (Value.ref (oN (nat_lit 225))) Value.none (oN (nat_lit 0)))) #[]) :: [] : Params → Frag) = x → (Params → Frag)) ?x ?h
  case h => delta a21 b21 s21 a28 b28 s28 a43 b43 s43 a50 b50 s50 a57 b57 s57 a64 b64 s64 a71 b71 s71 a76 b76 s76 a91 b91 s91 a98 b98 s98 a103 b103 s103 a108 b108 s108 a115 b115 s115 a122 b122 s122 a129 b129 s129 a136 b136 s136 a143 b143 s143 a148 b148 s148 a155 b155 s155 a160 b160 s160 a167 b167 s167 a176 b176 s176 a183 b183 s183 a190 b190 s190 a195 b195 s195 a200 b200 s200 a207 b207 s207 a214 b214 s214 a221 b221 s221 a226 b226 s226 nN sN oN lN; exact rfl
  case f => exact fun x _ => x
noncomputable def t1 : Stmt := by
  refine (?f : ∀ x : Stmt, nth 1 pbody = x → (Stmt)) ?x ?h
  case h => conv => lhs; whnf
  case f => exact fun x _ => x
noncomputable def t2 : Stmt := by
  refine (?f : ∀ x : Stmt, nth 2 pbody = x → (Stmt)) ?x ?h
  case h => conv => lhs; whnf
  case f => exact fun x _ => x
noncomputable def t4 : Stmt := by
  refine (?f : ∀ x : Stmt, nth 4 pbody = x → (Stmt)) ?x ?h
  case h => conv => lhs; whnf
  case f => exact fun x _ => x
noncomputable def t5 : Stmt := by
  refine (?f : ∀ x : Stmt, nth 5 pbody = x → (Stmt)) ?x ?h
  case h => conv => lhs; whnf
  case f => exact fun x _ => x
noncomputable def t6 : Stmt := by
  refine (?f : ∀ x : Stmt, nth 6 pbody = x → (Stmt)) ?x ?h
  case h => conv => lhs; whnf
  case f => exact fun x _ => x
noncomputable def t7 : Stmt := by
  refine (?f : ∀ x : Stmt, nth 7 pbody = x → (Stmt)) ?x ?h
  case h => conv => lhs; whnf
  case f => exact fun x _ => x
noncomputable def t8 : Stmt := by
  refine (?f : ∀ x : Stmt, nth 8 pbody = x → (Stmt)) ?x ?h
  case h => conv => lhs; whnf
  case f => exact fun x _ => x
noncomputable def t10 : Stmt := by
  refine (?f : ∀ x : Stmt, nth 10 pbody = x → (Stmt)) ?x ?h
  case h => conv => lhs; whnf
  case f => exact fun x _ => x
noncomputable def t11 : Stmt := by
  refine (?f : ∀ x : Stmt, nth 11 pbody = x → (Stmt)) ?x ?h
  case h => conv => lhs; whnf
  case f => exact fun x _ => x
noncomputable def t12 : Stmt := by
  refine (?f : ∀ x : Stmt, nth 12 pbody = x → (Stmt)) ?x ?h
  case h => conv => lhs; whnf
  case f => exact fun x _ => x
noncomputable def t13 : Stmt := by
  refine (?f : ∀ x : Stmt, nth 13 pbody = x → (Stmt)) ?x ?h
  case h => conv => lhs; whnf
  case f => exact fun x _ => x
noncomputable def t14 : Stmt := by
  refine (?f : ∀ x : Stmt, nth 14 pbody = x → (Stmt)) ?x ?h
  case h => conv => lhs; whnf
  case f => exact fun x _ => x
noncomputable def t15 : Stmt := by
  refine (?f : ∀ x : Stmt, nth 15 pbody = x → (Stmt)) ?x ?h
  case h => conv => lhs; whnf
  case f => exact fun x _ => x
noncomputable def t16 : Stmt := by
  refine (?f : ∀ x : Stmt, nth 16 pbody = x → (Stmt)) ?x ?h
  case h => conv => lhs; whnf
  case f => exact fun x _ => x
noncomputable def t17 : Stmt := by
  refine (?f : ∀ x : Stmt, nth 17 pbody = x → (Stmt)) ?x ?h
  case h => conv => lhs; whnf
  case f => exact fun x _ => x
noncomputable def t18 : Stmt := by
  refine (?f : ∀ x : Stmt, nth 18 pbody = x → (Stmt)) ?x ?h
  case h => conv => lhs; whnf
  case f => exact fun x _ => x
noncomputable def t19 : Stmt := by
  refine (?f : ∀ x : Stmt, nth 19 pbody = x → (Stmt)) ?x ?h
  case h => conv => lhs; whnf
  case f => exact fun x _ => x
noncomputable def t20 : Stmt := by
  refine (?f : ∀ x : Stmt, nth 20 pbody = x → (Stmt)) ?x ?h
  case h => conv => lhs; whnf
  case f => exact fun x _ => x
noncomputable def t21 : Stmt := by
  refine (?f : ∀ x : Stmt, nth 21 pbody = x → (Stmt)) ?x ?h
  case h => conv => lhs; whnf
  case f => exact fun x _ => x
noncomputable def t23 : Stmt := by
  refine (?f : ∀ x : Stmt, nth 23 pbody = x → (Stmt)) ?x ?h
  case h => conv => lhs; whnf
  case f => exact fun x _ => x
noncomputable def t24 : Stmt := by
  refine (?f : ∀ x : Stmt, nth 24 pbody = x → (Stmt)) ?x ?h
  case h => conv => lhs; whnf
  case f => exact fun x _ => x
noncomputable def t25 : Stmt := by
  refine (?f : ∀ x : Stmt, nth 25 pbody = x → (Stmt)) ?x ?h
  case h => conv => lhs; whnf
  case f => exact fun x _ => x
noncomputable def t26 : Stmt := by
  refine (?f : ∀ x : Stmt, nth 26 pbody = x → (Stmt)) ?x ?h
  case h => conv => lhs; whnf
  case f => exact fun x _ => x
noncomputable def t27 : Stmt := by
  refine (?f : ∀ x : Stmt, nth 27 pbody = x → (Stmt)) ?x ?h
  case h => conv => lhs; whnf
  case f => exact fun x _ => x
noncomputable def t28 : Stmt := by
  refine (?f : ∀ x : Stmt, nth 28 pbody = x → (Stmt)) ?x ?h
  case h => conv => lhs; whnf
  case f => exact fun x _ => x
noncomputable def t29 : Stmt := by
  refine (?f : ∀ x : Stmt, nth 29 pbody = x → (Stmt)) ?x ?h
  case h => conv => lhs; whnf
  case f => exact fun x _ => x
noncomputable def t30 : Stmt := by
  refine (?f : ∀ x : Stmt, nth 30 pbody = x → (Stmt)) ?x ?h
  case h => conv => lhs; whnf
  case f => exact fun x _ => x
noncomputable def t31 : Stmt := by
  refine (?f : ∀ x : Stmt, nth 31 pbody = x → (Stmt)) ?x ?h
  case h => conv => lhs; whnf
  case f => exact fun x _ => x
noncomputable def t32 : Stmt := by
  refine (?f : ∀ x : Stmt, nth 32 pbody = x → (Stmt)) ?x ?h
  case h => conv => lhs; whnf
  case f => exact fun x _ => x
noncomputable def t33 : Stmt := by
  refine (?f : ∀ x : Stmt, nth 33 pbody = x → (Stmt)) ?x ?h
  case h => conv => lhs; whnf
  case f => exact fun x _ => x
noncomputable def kview : Program := by
  refine (?f : ∀ x : Program, ({ (OpenRow.toRowW (OpenLaw.row PySem.Challenge.rw_og0240_01)).1 with main := { ((OpenRow.toRowW (OpenLaw.row PySem.Challenge.rw_og0240_01)).1).main with body := [t1, t2, t4, t5, t6, t7, t8, t10, t11, t12, t13, t14, t15, t16, t17, t18, t19, t20, t21, t23, t24, t25, t26, t27, t28, t29, t30, t31, t32, t33] } } : Program) = x → Program) ?x ?h
  case h => delta t1 t2 t4 t5 t6 t7 t8 t10 t11 t12 t13 t14 t15 t16 t17 t18 t19 t20 t21 t23 t24 t25 t26 t27 t28 t29 t30 t31 t32 t33; exact rfl
  case f => exact fun x _ => x
noncomputable abbrev kas : List Addr := [2, 3, 15, 17, 18, 20, 21, 22, 24, 25, 27, 28, 36, 37, 39, 40, 42, 43, 44, 46, 47, 49, 50, 51, 53, 54, 56, 57, 58, 60, 61, 63, 64, 65, 67, 68, 70, 71, 72, 75, 76, 77, 78, 79, 80, 81, 84, 85, 87, 88, 90, 91, 92, 94, 95, 97, 98, 99, 102, 103, 104, 107, 108, 109, 111, 112, 114, 115, 116, 118, 119, 121, 122, 123, 125, 126, 128, 129, 130, 132, 133, 135, 136, 137, 139, 140, 142, 143, 144, 147, 148, 149, 151, 152, 154, 155, 156, 159, 160, 161, 163, 164, 166, 167, 168, 169, 170, 172, 173, 175, 176, 177, 179, 180, 182, 183, 184, 186, 187, 189, 190, 191, 194, 195, 196, 199, 200, 201, 203, 204, 206, 207, 208, 210, 211, 213, 214, 215, 217, 218, 220, 221, 222, 225, 226]
noncomputable def lawD : DefRec := by
  refine (?f : ∀ d : DefRec, defOf kview (Str.ofString "law") = some (d, []) → DefRec) ?d ?h
  case h => rfl
  case f => exact fun d _ => d
local macro_rules | `(tactic| walk_at $s:str) => `(tactic| k_extra $s)
local macro_rules | `(tactic| k_all) => `(tactic| assumption)
local macro_rules | `(tactic| k_room) => `(tactic| ktr_room)
theorem lines_f1 : True := by
  k_with "OG enter" => first | ((refine' code_pos ?ogk1 ?ogk2 ?ogk3 ?ogk4 ?ogk5 ?ogkA ?ogkF ?ogkK ?ogk6 ?ogk7 ?ogk8 ?ogkn ?ogkb ?ogk9 ?ogkB ?ogkD ?_ ?ogc2 ?ogc3 ?ogc4 ?ogc5; (case ogkA => exact rfl); (case ogkF => exact rfl); (case ogkK => assumption); (case ogk1 => k_asm); (case ogk2 => k_asm); (case ogk3 => k_asm); (case ogk4 => k_asm); (case ogk5 => k_asm); (case ogk6 => k_is); (case ogk7 => k_is); (case ogk8 => exact Nat.lt_of_le_of_lt (Nat.le_add_right _ _) (by assumption)); (case ogkn => ((simp only [List.map_cons, List.map_nil]); exact rfl)); (case ogkb => ((simp only [List.zip_cons_cons, List.zip_nil_right, List.zip_nil_left]); exact rfl)); (case ogk9 => first | exact BindsTo.of_eq rfl | exact binds_K (by k_in) rfl (by k_is) rfl rfl rfl); (case ogc5 => decide); (case ogkB => exact locs rfl); (case ogkD => decide); (case ogc2 => exact rfl); (case ogc3 => exact rfl); (case ogc4 => exact rfl); k_whole; intro qqg' qqL' qqh' qqtk' qqFG' qqF' qqN' qqB' qqX' qqT'; (simp only [kstB] at qqF'); (try dsimp only); (try k_fold))) | fail "no line"
  k_with "OG mem" => first | (first | exact List.Mem.head _ | (refine List.Mem.tail _ ?_; k_extra "OG mem") | (refine List.mem_append_left _ ?_; k_extra "OG mem") | (refine List.mem_append_right _ ?_; k_extra "OG mem") | assumption) | fail "no line"
  k_with "OG subat" => first | (first | exact sub_self | (refine sub_tail ?_; k_extra "OG subat") | (refine sub_left ?_; k_extra "OG subat") | (refine sub_right ?_; k_extra "OG subat")) | fail "no line"
  k_with "OG sub" => first | (first | exact sub_self | exact sub_nil | k_extra "OG subat" | (refine sub_cons ?_ ?_; k_extra "OG mem"; k_extra "OG sub") | (refine sub_app ?_ ?_; k_extra "OG sub"; k_extra "OG sub")) | fail "no line"
  k_with "OG units" => first | ((have qqhcL9 := cLine_is; (try simp only [units_in1, units_deeper, Around.mark_units, units_caller]); (try dsimp only [ktrTop]); omega)) | fail "no line"
  k_with "OG all" => first | (first | assumption | exact dall_nil | exact dall_none | exact dall_int) | fail "no line"
  k_with "call builtin:len" => first | ((k_here; (with_reducible show wpAny _ _ (call (Value.builtin "len") [Value.ref _]) _ _ _); k_dflt (refine' og_len2 ?ogk1 ?ogk2 ?ogk3 ?ogk4 ?_; (case ogk1 => k_asm); (case ogk2 => k_mem); (case ogk3 => assumption); (case ogk4 => omega); k_whole))) | fail "no line"
  k_with "call builtin:len" => first | ((k_here; (with_reducible show wpAny _ _ (call (Value.builtin "len") [Value.ref _]) _ _ _); k_dflt (refine' og_len ?ogk1 ?ogk2 ?ogk3 ?ogk4 ?ogk5 ?_; (case ogk1 => assumption); (case ogk2 => assumption); (case ogk3 => k_asm); (case ogk4 => k_extra "OG sub"); (case ogk5 => omega); k_whole))) | fail "no line"
  k_with "subscriptTail" => first | ((k_here; (with_reducible show wpAny _ _ (subscriptTail _ _ (Value.ref _) (Value.int _ _)) _ _ _); (with_unfolding_all refine' og_rowitem ?ogk1 ?ogk2 ?ogk3 ?ogk4 ?ogk5 ?ogk6 ?ogk7 ?_ ?ogk8; (case ogk1 => assumption); (case ogk2 => assumption); (case ogk3 => k_asm); (case ogk4 => k_extra "OG sub"); (case ogk5 => omega); (case ogk6 => omega); (case ogk7 => omega); (case ogk8 => with_unfolding_all rfl); k_whole); intro qqb' qqvs' qqn' qqr' qqhr' qqhm' qqhb' qqhv'; (try (have qqhz' := small_row (by assumption) qqhm')))) | fail "no line"
  k_with "subscriptTail" => first | ((k_here; (with_reducible show wpAny _ _ (subscriptTail _ _ (Value.ref _) (Value.int _ _)) _ _ _); (with_unfolding_all refine' og_optitem ?ogk1 ?ogk2 ?ogk3 ?ogk4 ?ogk5 ?ogk6 ?ogk7 ?_ ?_ ?ogk8; (case ogk1 => assumption); (case ogk2 => assumption); (case ogk3 => k_asm); (case ogk4 => k_extra "OG sub"); (case ogk5 => omega); (case ogk6 => first | omega | (have qqhp9 := len_pos_of (by assumption); omega)); (case ogk7 => omega); (case ogk8 => with_unfolding_all rfl); k_whole); (all_goals (first | (intro qqho') | skip)); (all_goals (first | (intro qqt' qqho') | skip)))) | fail "no line"
  k_with "subscriptTail" => first | ((k_here; (with_reducible show wpAny _ _ (subscriptTail _ _ (Value.ref _) (Value.int _ _)) _ _ _); (with_unfolding_all refine' og_rowitem' ?ogk1 ?ogk2 ?ogk3 ?ogk4 ?ogk5 ?ogk6 ?ogk7 ?_ ?ogk8; (case ogk1 => assumption); (case ogk2 => assumption); (case ogk3 => k_asm); (case ogk4 => k_extra "OG sub"); (case ogk5 => omega); (case ogk6 => assumption); (case ogk7 => omega); (case ogk8 => with_unfolding_all rfl); k_whole); intro qqb' qqvs' qqn' qqhb' qqhv')) | fail "no line"
  k_with "OG memh" => first | ((refine' mem_of_sub ?oghmem9 ?ogssub9; (case oghmem9 => assumption); (case ogssub9 => k_extra "OG sub"))) | fail "no line"
  k_with "OG datall" => first | (first | exact dall_nil | exact dall_none | exact dall_int | assumption | (refine' DatAll.mono ?ogs9 ?ogh9; (case ogh9 => assumption); (case ogs9 => k_extra "OG sub"))) | fail "no line"
  k_with "compareOp Eq ref ref" => first | ((k_here; (with_reducible show wpAny _ _ (compareOp CmpOp.Eq (Value.ref _) (Value.ref _)) _ _ _); k_dflt (first | (refine' og_eq_gen (f := optD) (fun _ _ h => optD_inj h) (opts_ok 8) ?ognma ?ognDa ?ognmb ?ognDb ?ognN ?ogns1 ?ogns2 ?ognu ?_; (case ognN => k_asm); (case ogns1 => exact fun _ h => h); (case ogns2 => exact fun _ h => h); (case ognma => first | k_mem | k_extra "OG memh"); (case ognmb => first | k_mem | k_extra "OG memh"); (case ognDa => k_extra "OG datall"); (case ognDb => k_extra "OG datall"); (case ognu => k_extra "OG units"); k_whole) | (refine' og_eq_gen (f := rowD) (fun _ _ h => rowD_inj h) rows_ok ?ognma ?ognDa ?ognmb ?ognDb ?ognN ?ogns1 ?ogns2 ?ognu ?_; (case ognN => k_asm); (case ogns1 => exact fun _ h => h); (case ogns2 => exact fun _ h => h); (case ognma => first | k_mem | k_extra "OG memh"); (case ognmb => first | k_mem | k_extra "OG memh"); (case ognDa => k_extra "OG datall"); (case ognDb => k_extra "OG datall"); (case ognu => k_extra "OG units"); k_whole)))) | fail "no line"
  k_with "compareOp NotEq ref ref" => first | ((k_here; (with_reducible show wpAny _ _ (compareOp CmpOp.NotEq (Value.ref _) (Value.ref _)) _ _ _); k_dflt (first | (refine' og_ne_gen (f := optD) (fun _ _ h => optD_inj h) (opts_ok 8) ?ognma ?ognDa ?ognmb ?ognDb ?ognN ?ogns1 ?ogns2 ?ognu ?_; (case ognN => k_asm); (case ogns1 => exact fun _ h => h); (case ogns2 => exact fun _ h => h); (case ognma => first | k_mem | k_extra "OG memh"); (case ognmb => first | k_mem | k_extra "OG memh"); (case ognDa => k_extra "OG datall"); (case ognDb => k_extra "OG datall"); (case ognu => k_extra "OG units"); k_whole) | (refine' og_ne_gen (f := rowD) (fun _ _ h => rowD_inj h) rows_ok ?ognma ?ognDa ?ognmb ?ognDb ?ognN ?ogns1 ?ogns2 ?ognu ?_; (case ognN => k_asm); (case ogns1 => exact fun _ h => h); (case ogns2 => exact fun _ h => h); (case ognma => first | k_mem | k_extra "OG memh"); (case ognmb => first | k_mem | k_extra "OG memh"); (case ognDa => k_extra "OG datall"); (case ognDb => k_extra "OG datall"); (case ognu => k_extra "OG units"); k_whole)))) | fail "no line"
  k_with "compareOp Eq ref ref" => first | ((k_here; (with_reducible show wpAny _ _ (compareOp CmpOp.Eq (Value.ref _) (Value.ref _)) _ _ _); k_dflt (first
  | (refine' og_eq_gen (f := optD) (fun _ _ h => optD_inj h) (opts_ok 8) ?ogma ?ogDa ?ogmb ?ogDb ?ogN ?ogs1 ?ogs2 ?ogu ?_; (case ogma => assumption); (case ogDa => assumption); (case ogN => k_asm); (case ogs1 => k_extra "OG sub"); (case ogs2 => exact fun _ h => h); (case ogmb => k_mem); (case ogDb => k_extra "OG all"); (case ogu => k_extra "OG units"); k_whole)
  | (refine' og_eq_gen (f := rowD) (fun _ _ h => rowD_inj h) rows_ok ?ogma ?ogDa ?ogmb ?ogDb ?ogN ?ogs1 ?ogs2 ?ogu ?_; (case ogma => assumption); (case ogDa => assumption); (case ogmb => assumption); (case ogDb => assumption); (case ogN => k_asm); (case ogs1 => k_extra "OG sub"); (case ogs2 => k_extra "OG sub"); (case ogu => k_extra "OG units"); k_whole)))) | fail "no line"
  k_with "subscriptTail" => first | ((k_here; (with_reducible show wpAny _ _ (subscriptTail _ _ (Value.ref _) (Value.int _ _)) _ _ _); (with_unfolding_all refine' og_optitemN ?ogk1 ?ogk2 ?ogk3 ?ogk4 ?ogk5 ?ogk6 ?ogk7 ?_ ?ogk8; (case ogk1 => assumption); (case ogk2 => assumption); (case ogk3 => k_asm); (case ogk4 => k_extra "OG sub"); (case ogk5 => omega); (case ogk6 => assumption); (case ogk7 => omega); (case ogk8 => with_unfolding_all rfl); k_whole))) | fail "no line"
  k_with "subscriptTail" => first | ((k_here; (with_reducible show wpAny _ _ (subscriptTail _ _ (Value.ref _) (Value.int _ _)) _ _ _); (with_unfolding_all refine' og_optitemS ?ogk1 ?ogk2 ?ogk3 ?ogk4 ?ogk5 ?ogk6 ?ogk7 ?_ ?ogk8; (case ogk1 => assumption); (case ogk2 => assumption); (case ogk3 => k_asm); (case ogk4 => k_extra "OG sub"); (case ogk5 => omega); (case ogk6 => assumption); (case ogk7 => omega); (case ogk8 => with_unfolding_all rfl); k_whole); intro qqt')) | fail "no line"
  k_with "OG dat" => first | (first | assumption | (refine' DatIn.mono ?ogs9 ?ogh9; (case ogh9 => first | assumption | exact DatIn.list (by assumption) (by assumption)); (case ogs9 => k_extra "OG sub"))) | fail "no line"
  k_with "OG use" => first | (((case ogB => k_asm); (case ogF => k_asm); (case ogX => k_asm); (case ogT => k_asm); (case ogkk => first | exact rfl | assumption); (case ogd => first | (dsimp only [ktrTop]; omega) | ktr_room); (case ogu => k_extra "OG units"))) | fail "no line"
  k_with "eval ListComp" => first | ((k_here; k_dflt (refine LCg.ListComp_U (F₀ := by k_asm) (by with_unfolding_all rfl) (by decide) (by rfl) (by decide) (by rfl) ?_))) | fail "no line"
  k_with "exec Assign cons ListComp" => first | ((k_here; k_dflt (refine LCg.Assign_ListComp_U (F₀ := by k_asm) (by rfl) (by with_unfolding_all rfl) (by with_unfolding_all rfl) (by decide) (by rfl) (by decide) (by rfl) (by rfl) (by rfl) ?_))) | fail "no line"
  k_with "CompSrc" => first | ((refine Stop.out ?_)) | fail "no line"
  k_with "CTurn" => first | ((refine Stop.out ?_)) | fail "no line"
  k_with "OG enterC" => first | ((refine' code_defC ?ogk1 ?ogk2 ?ogk3 ?ogk4 ?ogk5 ?ogkA ?ogkF ?ogkK ?ogk6 ?ogk7 ?ogk8 ?ogk9 ?ogkB ?ogkD ?_ ?ogc2 ?ogc3 ?ogc4; (case ogkA => exact rfl); (case ogkF => exact rfl); (case ogkK => assumption); (case ogk1 => k_asm); (case ogk2 => k_asm); (case ogk3 => k_asm); (case ogk4 => k_asm); (case ogk5 => k_asm); (case ogk6 => k_is); (case ogk7 => k_is); (case ogk8 => exact Nat.lt_of_le_of_lt (Nat.le_add_right _ _) (by assumption)); (case ogk9 => exact BindsTo.of_eq rfl); (case ogkB => exact rfl); (case ogkD => decide +kernel); (case ogc2 => exact rfl); (case ogc3 => exact rfl); (case ogc4 => exact rfl); k_whole; intro qqg' qqL' qqh' qqtk' qqcells' qqFG' qqF' qqN' qqY' qqB' qqX' qqT' qql1; (try k_lt qql1); k_cells qqY'; (try simp only [List.cons_append, List.nil_append] at qqN'); (try dsimp only); (try k_fold))) | fail "no line"
  k_with "exec While" => first | ((refine Stop.out ?_)) | fail "no line"
  k_with "getMethod bytes" => first | ((k_here; (with_reducible refine method_split ?_))) | fail "no line"
  k_with "getMethod bytes" => first | ((k_here; (with_reducible refine method_join ?_))) | fail "no line"
  k_with "call type:bytes" => first | ((k_here; (with_reducible show wpAny _ _ (call (Value.type _) [Value.ref _]) _ _ _); k_dflt (refine' bytes_K ?ogF ?ogN ?ogl ?ogi ?ogr ?ogz ?ogh ?_; (case ogF => k_asm); (case ogN => k_asm); (case ogl => is_list); (case ogi => assumption); (case ogr => assumption); (case ogz => first | size_fits | (rw [IntsAre.length (by assumption), sizeLine_eq]; (try simp only [List.length_reverse, List.length_map]); omega)); (case ogh => with_unfolding_all rfl); k_whole); intro qqh' qqt' qqk' qqF' qqN' qqhB'; (try k_sweep))) | fail "no line"
  k_with "subscriptTail Name Slice ref ref" => first | ((k_here; (with_reducible show wpAny _ _ (subscriptTail _ (PySem.Expr.Slice none (some _) none _) (Value.ref _) (Value.ref _)) _ _ _); k_dflt (refine' og_slice_upto ?oga ?ogb ?ogF ?ogN ?oghs ?ogh0 ?oghz ?_ ?ogs ?ogt; (case oga => assumption); (case ogb => assumption); (case ogF => k_asm); (case ogN => k_asm); (case oghs => k_extra "OG sub"); (case ogh0 => omega); (case oghz => omega); (case ogs => with_unfolding_all rfl); (case ogt => kmk_pure)); intro qqD' qqh' qqws' qqF' qqN' qql1 qqhd'; (try k_lt qql1); (try k_sweep))) | fail "no line"
  k_with "subscriptTail Name Slice ref ref" => first | ((k_here; (with_reducible show wpAny _ _ (subscriptTail _ (PySem.Expr.Slice (some _) none none _) (Value.ref _) (Value.ref _)) _ _ _); k_dflt (refine' og_slice_from ?oga ?ogb ?ogF ?ogN ?oghs ?ogh0 ?oghz ?_ ?ogs ?ogt; (case oga => assumption); (case ogb => assumption); (case ogF => k_asm); (case ogN => k_asm); (case oghs => k_extra "OG sub"); (case ogh0 => omega); (case oghz => omega); (case ogs => with_unfolding_all rfl); (case ogt => kmk_pure)); intro qqD' qqh' qqws' qqF' qqN' qql1 qqhd'; (try k_lt qql1); (try k_sweep))) | fail "no line"
  k_with "call type:list" => first | ((k_here; (with_reducible show wpAny _ _ (call (Value.type _) [Value.ref _]) _ _ _); k_dflt (refine' og_list ?oga ?ogb ?ogF ?ogN ?oghs ?oghz ?_; (case oga => assumption); (case ogb => assumption); (case ogF => k_asm); (case ogN => k_asm); (case oghs => k_extra "OG sub"); (case oghz => omega); k_whole); intro qqD' qqc' qqh' qqF' qqN' qql1; (try k_lt qql1); (try k_sweep))) | fail "no line"
  k_with "call builtin:bytes.join" => first | ((k_here; (with_reducible show wpAny _ _ (call (Value.builtin "bytes.join") [Value.bytes _ _, Value.ref _]) _ _ _); k_dflt (refine' og_join ?oghm ?oghd ?ogN ?oghs ?oghz ?_; (case ogN => k_asm); (case oghs => exact fun _ h => h); (case oghm => k_mem); (case oghd => (refine' DatAll.mono ?ogs9 ?ogh9; (case ogh9 => assumption); (case ogs9 => k_extra "OG sub"))); (case oghz => assumption); k_whole); intro qqt' qqtk')) | fail "no line"
  k_with "setItem ref int" => first | ((k_here; (with_reducible show wpAny _ _ (setItem (Value.ref _) (Value.int 1 _) _) _ _ _); k_dflt (refine' og_set31 ?ogk0 ?ogk1 ?ogk2 ?ogk3 ?_; (case ogk1 => k_asm); (case ogk2 => k_asm); (case ogk0 => k_mem); (case ogk3 => k_upd); k_whole); intro qqh' qqF' qqN'; (try k_sweep))) | fail "no line"
  k_with "setItem ref int" => first | ((k_here; (with_reducible show wpAny _ _ (setItem (Value.ref _) (Value.int 2 _) _) _ _ _); k_dflt (refine' og_set32 ?ogk0 ?ogk1 ?ogk2 ?ogk3 ?_; (case ogk1 => k_asm); (case ogk2 => k_asm); (case ogk0 => k_mem); (case ogk3 => k_upd); k_whole); intro qqh' qqF' qqN'; (try k_sweep))) | fail "no line"
  k_with "ite" => first | ((k_dflt (first
  | refine PySem.W.ite_pos (by first | omega | (simp only [decide_eq_true_eq, beq_iff_eq]; omega)) ?_
  | refine PySem.W.ite_neg (by first | omega | (simp only [decide_eq_true_eq, beq_iff_eq]; omega)) ?_))) | fail "no line"
  k_with "FinA" => first | (((unfold LCg.FinA); intro qqD' qqh' qqtk' qqF' qqN' qqo1'; (have qqhoff' := off1_mem qqo1'); (try simp only [LCg.Off1, and_true] at qqo1'); (try simp only [List.nil_append, List.cons_append] at qqN'); (try simp only [List.nil_append, List.cons_append] at qqhoff'); (try dsimp only))) | fail "no line"
  k_with "exec For Name Name cons nil" => first | ((k_here; (rename Fr _ _ _ _ => qqlF'); (with_unfolding_all refine' For_invVF qqlF' ?ogk1 ?ogk2 ?_ (hE := by first | assumption | passes_own); (case ogk1 => exact rfl); (case ogk2 => exact rfl); k_whole))) | fail "no line"
  k_with "exec For Name Call cons nil" => first | ((k_here; (rename Fr _ _ _ _ => qqlF'); (with_unfolding_all refine' For_invVF qqlF' ?ogk1 ?ogk2 ?_ (hE := by first | assumption | passes_own); (case ogk1 => exact rfl); (case ogk2 => exact rfl); k_whole))) | fail "no line"
  k_with "pyIter bytes" => first | (((with_reducible show wpAny _ _ (pyIter (Value.bytes _ _)) (fun it s₂ => LoopAtV _ _ _ _ _ _ _ _ _ it s₂) _ _); refine Stop.out ?_)) | fail "no line"
  k_with "pyIter ref" => first | (((with_reducible show wpAny _ _ (pyIter (Value.ref _)) (fun it s₂ => LoopAtV _ _ _ _ _ _ _ _ _ it s₂) _ _); refine Stop.out ?_)) | fail "no line"
  k_with "OG ne" => first | (first | assumption | (apply Ne.symm; assumption) | (show @Ne Nat _ _; omega)) | fail "no line"
  k_with "OG off" => first | (first | assumption | exact off_nil | (refine offc ?_ ?_; k_extra "OG ne"; k_extra "OG off") | (refine off_app ?_ ?_; k_extra "OG off"; k_extra "OG off")) | fail "no line"
  k_with "OG same" => first | ((intro qqz qqh1 qqh2 qqh3; (try simp only [List.forall_mem_cons, List.not_mem_nil, false_implies, implies_true, and_true, ne_eq] at qqh2); (try simp only [List.contains_cons, List.contains_nil, Bool.or_false, Bool.or_eq_false_iff, beq_eq_false_iff_ne, ne_eq] at qqh3); first | rfl | (simp [qqh1, qqh2, qqh3]; done) | (simp [qqh2, qqh3]; done))) | fail "no line"
  trivial


noncomputable abbrev Led := List (Addr × Obj)

/-- a contract of the def at address f: at these arguments over this ledger -/
noncomputable def Con (lvl : Nat) (f : Addr) (news : Led) (vs : List Value) (Post : Led → Value → Prop) : Prop :=
  ∀ (w : World) (mean : ExcName → Option Value) (mg mb : Str → Option Value) (dp un : Nat) (gd : Option (List Code)) (cn : Str) (cs : Scope) (a : Addr) (ccd : Value) (cl : List (Str × Addr)) (outer : List Env) (A₀ : Around) (base h₀ : Heap) (L : Addr) (m : Str → Option Value) (s : Shared)
    (Q E : Value → Shared → Prop),
    Below A₀ base outer h₀ → Fr h₀ L s.heap m → (kheap w.params).In h₀ → News h₀ L s.heap news → Top kview (looseW kview [Str.ofString "read_params"]) mean mg mb h₀ → cs.kind = .function →
    dp + lvl < recursionLimit → un + 100 * lvl < cLine →
    (∀ r news' h' tk', Fr h₀ L h' m → News h₀ L h' news' → Post news' r → Q r { s with heap := h', toks := tk' }) →
    wpAny (model (PySem.Challenge.rw_og0240_01.row).prog w) (ktrTop dp un gd cn cs L a ccd cl outer) (call (.ref f) vs) Q E s

theorem con_use {lvl : Nat} {f : Addr} {news : Led} {vs : List Value} {Post : Led → Value → Prop} (C : Con lvl f news vs Post) {w : World} {mean : ExcName → Option Value} {mg mb : Str → Option Value} {dp un : Nat} {gd : Option (List Code)} {cn : Str} {cs : Scope} {a : Addr} {ccd : Value} {cl : List (Str × Addr)} {outer : List Env} {A₀ : Around} {base h₀ : Heap} {L : Addr} {m : Str → Option Value} {s : Shared}
    {Q E : Value → Shared → Prop} (B : Below A₀ base outer h₀) (F : Fr h₀ L s.heap m) (X : (kheap w.params).In h₀) (N : News h₀ L s.heap news) (T : Top kview (looseW kview [Str.ofString "read_params"]) mean mg mb h₀) (hk : cs.kind = .function)
    (hd : dp + lvl < recursionLimit) (hu : un + 100 * lvl < cLine)
    (ret : ∀ r news' h' tk', Fr h₀ L h' m → News h₀ L h' news' → Post news' r → Q r { s with heap := h', toks := tk' }) :
    wpAny (model (PySem.Challenge.rw_og0240_01.row).prog w) (ktrTop dp un gd cn cs L a ccd cl outer) (call (.ref f) vs) Q E s := C _ _ _ _ _ _ _ _ _ _ _ _ _ _ _ _ _ _ _ _ _ B F X N T hk hd hu ret

/-- what is new lies elsewhere -/
noncomputable def Apart (news tl : Led) : Prop := ∀ p ∈ tl, ∀ q ∈ news, p.1 ≠ q.1

noncomputable def optD : Option Int → Dat
  | none => .none
  | some i => .int i
noncomputable def rowD (r : List (Option Int)) : Dat := .list (r.map optD)
noncomputable def rowsD (rs : List (List (Option Int))) : Dat := .list (rs.map rowD)

noncomputable def optV : Value → Option Int → Prop
  | .none, none => True
  | .int i _, some j => i = j
  | _, _ => False
noncomputable def optVs : List Value → List (Option Int) → Prop
  | [], [] => True
  | v :: vs, o :: os => optV v o ∧ optVs vs os
  | _, _ => False
theorem optVs_len : ∀ {vs : List Value} {os : List (Option Int)}, optVs vs os → vs.length = os.length
  | [], [], _ => rfl
  | [], _ :: _, h => h.elim
  | _ :: _, [], h => h.elim
  | _ :: vs, _ :: os, h => by rw [List.length_cons, List.length_cons, optVs_len h.2]

theorem dat_list {news : Led} {v : Value} {ds : List Dat} (h : DatIn news v (.list ds)) : ∃ a vs n, v = .ref a ∧ (a, listOf vs.toArray n) ∈ news ∧ DatAll news vs ds := by
  cases h with
  | list hm r => exact ⟨_, _, _, rfl, hm, r⟩
theorem dat_opt {news : Led} {v : Value} {o : Option Int} (h : DatIn news v (optD o)) : (v = .none ∧ o = none) ∨ ∃ i t, v = .int i t ∧ o = some i := by
  cases o with
  | none => cases h; exact .inl ⟨rfl, rfl⟩
  | some i => cases h with
    | int _ t => exact .inr ⟨i, t, rfl, rfl⟩

structure Rd where
  most : Int
  limit : Int
  found : List (List (Option Int))
  parts : List (Option Int)
  value : Option Int
  begun : Bool

noncomputable def ent (P : Params) (x : Str) (t : Tok) (v : Value) : DictEntry := ⟨PyData.keyHash P x, .str x t, v⟩

noncomputable abbrev rdEnts (P : Params) (t1 t2 t3 t4 t5 t6 : Tok) (most limit found parts value begun : Value) : List DictEntry :=
  [⟨PyData.keyHash P (Str.ofString "most"), .str (Str.ofString "most") t1, most⟩, ⟨PyData.keyHash P (Str.ofString "limit"), .str (Str.ofString "limit") t2, limit⟩,
   ⟨PyData.keyHash P (Str.ofString "found"), .str (Str.ofString "found") t3, found⟩, ⟨PyData.keyHash P (Str.ofString "parts"), .str (Str.ofString "parts") t4, parts⟩,
   ⟨PyData.keyHash P (Str.ofString "value"), .str (Str.ofString "value") t5, value⟩, ⟨PyData.keyHash P (Str.ofString "is_begun"), .str (Str.ofString "is_begun") t6, begun⟩]

section loops
variable {prog : Program} {w : World} {A : Around} {E : Value → Shared → Prop} {s : Shared} {env : Env} {h₀ : Heap} {x : Str} {body : List Stmt} {Q : Flow → Shared → Prop}

/-- the end of a turn -/
noncomputable def LEnd {σ : Type} (h₀ : Heap) (L : Addr) (Lg : σ → Led) (ps : σ → List (Str × Value)) (stored : List Str) (x : Str) (m₀ : Str → Option Value) (J : σ → Prop) (own : Led) (s s₂ : Shared) : Prop :=
  ∃ (c' : σ) (h' : Heap) (tk : Nat) (m' : Str → Option Value) (news' : Led), s₂ = { s with heap := h', toks := tk } ∧ Fr h₀ L h' m' ∧ News h₀ L h' news' ∧ (∀ p ∈ Lg c' ++ own, p ∈ news') ∧ OwnOff own ((Lg c').map (·.1)) ∧
    (∀ p ∈ ps c', m' p.1 = some p.2) ∧ (∀ z, z ≠ x → (∀ p ∈ ps c', z ≠ p.1) → stored.contains z = false → m' z = m₀ z) ∧ J c'
noncomputable def LPost {σ : Type} (h₀ : Heap) (L : Addr) (Lg : σ → Led) (ps : σ → List (Str × Value)) (stored : List Str) (x : Str) (m₀ : Str → Option Value) (J : σ → Prop) (own : Led) (s : Shared) (Q : Flow → Shared → Prop) (f : Flow) (s₂ : Shared) : Prop :=
  match f with
  | .ret v => Q (.ret v) s₂
  | .brk => Q .next s₂
  | _ => LEnd h₀ L Lg ps stored x m₀ J own s s₂
theorem lend {σ : Type} {L : Addr} {Lg : σ → Led} {ps : σ → List (Str × Value)} {stored : List Str} {m₀ m' : Str → Option Value} {J : σ → Prop} {own news' : Led} {h' : Heap} {tk : Nat} (c' : σ) (F : Fr h₀ L h' m') (N : News h₀ L h' news')
    (hn : ∀ p ∈ Lg c' ++ own, p ∈ news') (ho : OwnOff own ((Lg c').map (·.1))) (hk : ∀ p ∈ ps c', m' p.1 = some p.2) (hr : ∀ z, z ≠ x → (∀ p ∈ ps c', z ≠ p.1) → stored.contains z = false → m' z = m₀ z) (hj : J c') :
    LEnd h₀ L Lg ps stored x m₀ J own s { s with heap := h', toks := tk } := ⟨c', h', tk, m', news', rfl, F, N, hn, ho, hk, hr, hj⟩

theorem og_for {σ : Type} {I : Addr} {n : Nat} {P : Nat → Value → Prop} {St : Nat → Heap → Prop} {m₀ : Str → Option Value} (Lg : σ → Led) (ps : σ → List (Str × Value)) (stored : List Str) (J : Nat → σ → Prop) (c₀ : σ)
    (W : Walks prog w A I [I] [I] n P St) (hob : ∀ i h, St i h → ∃ o, h.get? I = some o) (hI : I = s.heap.objs.size) (itO : Obj) (hst0 : St 0 (s.heap.push itO))
    (F : Fr h₀ env.locals s.heap m₀) (N : News h₀ env.locals s.heap (Lg c₀)) (hk : ∀ p ∈ ps c₀, m₀ p.1 = some p.2) (hj : J 0 c₀)
    (turn : ∀ i v c (u : Str → Option Value) h tk own, i < n → P i v → J i c → OwnOff own ((Lg c).map (·.1)) →
      Fr h₀ env.locals h (fun y => if y = x then some v else kstB (fun z => if stored.contains z then u z else m₀ z) (ps c) y) → News h₀ env.locals h (Lg c ++ own) →
      wpAny (model prog w) A (execs body env) (LPost h₀ env.locals Lg ps stored x m₀ (J (i + 1)) own { s with heap := h, toks := tk } Q) E { s with heap := h, toks := tk })
    (done : ∀ c (u : Str → Option Value) h tk, J n c → Fr h₀ env.locals h (fun y => if y = x then u y else kstB (fun z => if stored.contains z then u z else m₀ z) (ps c) y) → News h₀ env.locals h (Lg c) → Q .next { s with heap := h, toks := tk }) :
    LoopAtV prog w A h₀ env x body Q E (.ref I) { s with heap := s.heap.push itO } := by
  subst hI
  refine kdr_loop (news := Lg c₀) (fun i m nx => ∃ c : σ, nx = Lg c ∧ J i c ∧ (∀ p ∈ ps c, m p.1 = some p.2) ∧ (∀ z, z ≠ x → (∀ p ∈ ps c, z ≠ p.1) → stored.contains z = false → m z = m₀ z)) W (fun _ h => h) (fun _ h => h) ?_ ?_ ?_ ?_ hst0 (F.push _) (fun p hp => ⟨Heap.get?_push_of_some _ (N p hp).1, (N p hp).2⟩) ⟨c₀, rfl, hj, hk, fun _ _ _ _ => rfl⟩ ?_ ?_
  · intro i h hi b hb
    rw [List.mem_singleton.mp hb]
    exact hob i h hi
  · intro hm
    exact absurd F.ns.lt ((List.mem_singleton.mp hm) ▸ Nat.lt_irrefl _)
  · intro b hb
    rw [List.mem_singleton.mp hb]
    exact next_is_new F
  · intro p hp hI
    exact absurd (Heap.lt_size (N p hp).1) ((List.mem_singleton.mp hI) ▸ Nat.lt_irrefl _)
  · rintro i v m₁ nx h tk own hi hP hoff ⟨c, rfl, hj', h1, h2⟩ F₁ N₁
    refine wpAny_mono (turn i v c m₁ h tk own hi hP hj' hoff (kst_fr h1 h2 F₁) N₁) (fun f s₂ p => ?_) fun _ _ x => x
    have up : LEnd h₀ env.locals Lg ps stored x m₀ (J (i + 1)) own { s with heap := h, toks := tk } s₂ →
        InvEndG h₀ env.locals (fun m nx => ∃ c : σ, nx = Lg c ∧ J (i + 1) c ∧ (∀ p ∈ ps c, m p.1 = some p.2) ∧ (∀ z, z ≠ x → (∀ p ∈ ps c, z ≠ p.1) → stored.contains z = false → m z = m₀ z)) own { s with heap := h, toks := tk } s₂ := by
      rintro ⟨c', h', tk', m', news', e, F', N', hn, ho, hk', hr', hj9⟩
      exact ⟨h', tk', m', news', Lg c', e, F', N', fun p hp => hn p (List.mem_append_left _ hp), fun p hp => hn p (List.mem_append_right _ hp), ho, c', rfl, hj9, hk', hr'⟩
    cases f with
    | ret v => exact p
    | brk => exact p
    | next => exact up p
    | cont => exact up p
  · rintro m₁ nx h tk ⟨c, rfl, hj', h1, h2⟩ F₁ N₁
    exact done c m₁ h tk hj' (kst_frOut h1 h2 F₁) N₁

theorem og_for_bytes {σ : Type} {b : Array UInt8} {tb : Tok} {m₀ : Str → Option Value} (Lg : σ → Led) (ps : σ → List (Str × Value)) (stored : List Str) (J : Nat → σ → Prop) (c₀ : σ)
    (hh : A.handled = none) (F : Fr h₀ env.locals s.heap m₀) (N : News h₀ env.locals s.heap (Lg c₀)) (hk : ∀ p ∈ ps c₀, m₀ p.1 = some p.2) (hj : J 0 c₀)
    (turn : ∀ i (k : UInt8) t c (u : Str → Option Value) h tk own, b[i]? = some k → J i c → OwnOff own ((Lg c).map (·.1)) →
      Fr h₀ env.locals h (fun y => if y = x then some (.int (k.toNat : Int) t) else kstB (fun z => if stored.contains z then u z else m₀ z) (ps c) y) → News h₀ env.locals h (Lg c ++ own) →
      wpAny (model prog w) A (execs body env) (LPost h₀ env.locals Lg ps stored x m₀ (J (i + 1)) own { s with heap := h, toks := tk } Q) E { s with heap := h, toks := tk })
    (done : ∀ c (u : Str → Option Value) h tk, J b.size c → Fr h₀ env.locals h (fun y => if y = x then u y else kstB (fun z => if stored.contains z then u z else m₀ z) (ps c) y) → News h₀ env.locals h (Lg c) → Q .next { s with heap := h, toks := tk }) :
    wpAny (model prog w) A (pyIter (.bytes b tb)) (fun it s₂ => LoopAtV prog w A h₀ env x body Q E it s₂) E s := by
  refine KBw.pyIter_bytes ?_
  refine og_for (s := s) Lg ps stored J c₀ (KBw.walks (prog := prog) (w := w) hh s.heap.objs.size b tb) (fun i h hi => ?_) rfl _ ⟨_, Heap.get?_push_size _ rfl, rfl, rfl⟩ F N hk hj ?_ done
  · obtain ⟨o, ho, _⟩ := hi
    exact ⟨o, ho⟩
  · rintro i v c u h tk own hi ⟨k, t, hk', rfl⟩ hj' hoff F₁ N₁
    exact turn i k t c u h tk own hk' hj' hoff F₁ N₁

theorem og_for_range {σ : Type} {r : Addr} {a₀ b₀ : Int} {t₀ u₀ v₀ : Tok} {n : Nat} {m₀ : Str → Option Value} (Lg : σ → Led) (ps : σ → List (Str × Value)) (stored : List Str) (J : Nat → σ → Prop) (c₀ : σ)
    (hh : A.handled = none) (hr : IsRange s.heap r a₀ b₀ 1 t₀ u₀ v₀) (hsmall : Builtin.Range.small a₀ b₀ 1 = true) (hsz : Builtin.Range.rangeSize a₀ b₀ 1 = (n : Int))
    (F : Fr h₀ env.locals s.heap m₀) (N : News h₀ env.locals s.heap (Lg c₀)) (hk : ∀ p ∈ ps c₀, m₀ p.1 = some p.2) (hj : J 0 c₀)
    (turn : ∀ (i : Nat) t c (u : Str → Option Value) h tk own, i < n → J i c → OwnOff own ((Lg c).map (·.1)) →
      Fr h₀ env.locals h (fun y => if y = x then some (.int (a₀ + (i : Int)) t) else kstB (fun z => if stored.contains z then u z else m₀ z) (ps c) y) → News h₀ env.locals h (Lg c ++ own) →
      wpAny (model prog w) A (execs body env) (LPost h₀ env.locals Lg ps stored x m₀ (J (i + 1)) own { s with heap := h, toks := tk } Q) E { s with heap := h, toks := tk })
    (done : ∀ c (u : Str → Option Value) h tk, J n c → Fr h₀ env.locals h (fun y => if y = x then u y else kstB (fun z => if stored.contains z then u z else m₀ z) (ps c) y) → News h₀ env.locals h (Lg c) → Q .next { s with heap := h, toks := tk }) :
    wpAny (model prog w) A (pyIter (.ref r)) (fun it s₂ => LoopAtV prog w A h₀ env x body Q E it s₂) E s := by
  refine wpAny_pyIter_range hr hsmall ?_
  refine og_for (s := s) Lg ps stored J c₀ (LCg.range_walks (prog := prog) (w := w) hh a₀ n) (fun i h hi => ⟨_, hi⟩) rfl _ (by show IsRangeIter _ _ _ _ _; rw [hsz]; simpa using Heap.get?_push_size _ rfl) F N hk hj ?_ done
  rintro i v c u h tk own hi ⟨t, rfl⟩ hj' hoff F₁ N₁
  exact turn i t c u h tk own hi hj' hoff F₁ N₁
end loops
section data
variable {prog : Program} {w : World} {A : Around} {E : Value → Shared → Prop} {s : Shared} {h₀ : Heap} {L l a b : Addr} {news led led₁ led₂ : Led}

theorem og_len {α : Type} {f : α → Dat} {us : List Value} {xs : List α} {n : Nat} {Q : Value → Shared → Prop} (hm : (l, listOf us.toArray n) ∈ led) (hd : DatAll led us (xs.map f)) (N : News h₀ L s.heap news) (hs : ∀ p ∈ led, p ∈ news) (hfit : xs.length < 2 ^ 62)
    (h : Q (.int (xs.length : Int) (s.toks + 1)) { s with toks := s.toks + 1 + 1 }) : wpAny (model prog w) A (call (.builtin "len") [.ref l]) Q E s :=
  kd_len N (hs _ hm) hd (by rw [List.length_map]; omega) (by rw [List.length_map]; exact h)

theorem map_get {α : Type} {f : α → Dat} {xs : List α} {i : Nat} {d : Dat} (h : (xs.map f)[i]? = some d) : ∃ y, xs[i]? = some y ∧ d = f y := by
  rw [List.getElem?_map] at h
  obtain ⟨y, h1, h2⟩ := Option.map_eq_some_iff.mp h
  exact ⟨y, h1, h2.symm⟩

theorem og_rowitem {value slice : PySem.Expr} {us : List Value} {rs : List (List (Option Int))} {n : Nat} {k : Int} {u : Tok} {Q : Value → Shared → Prop} (hm : (l, listOf us.toArray n) ∈ led) (hd : DatAll led us (rs.map rowD)) (N : News h₀ L s.heap news) (hs : ∀ p ∈ led, p ∈ news)
    (h0 : 0 ≤ k) (h1 : k < (rs.length : Int)) (hfit : rs.length < 2 ^ 62)
    (h : ∀ b vs n' r, rs[k.toNat]? = some r → r ∈ rs → (b, listOf vs.toArray n') ∈ led → DatAll led vs (r.map optD) → Q (.ref b) s)
    (hsub : subscripted slice false (.ref l) (.int k u) = operate [.ref l, .int k u] (getItem (.ref l) (.int k u)) := by with_unfolding_all rfl) :
    wpAny (model prog w) A (subscriptTail value slice (.ref l) (.int k u)) Q E s := by
  refine kd_item N (hs _ hm) hd h0 (by rw [List.length_map]; exact h1) (by omega) (fun v d hk _ hD => ?_) hsub
  obtain ⟨r, hr, rfl⟩ := map_get hk
  obtain ⟨b, vs, n', rfl, hb, hv⟩ := dat_list hD
  exact h b vs n' r hr (List.mem_of_getElem? hr) hb hv

theorem og_optitem {value slice : PySem.Expr} {us : List Value} {r : List (Option Int)} {n : Nat} {k : Int} {u : Tok} {Q : Value → Shared → Prop} (hm : (l, listOf us.toArray n) ∈ led) (hd : DatAll led us (r.map optD)) (N : News h₀ L s.heap news) (hs : ∀ p ∈ led, p ∈ news)
    (h0 : 0 ≤ k) (h1 : k < (r.length : Int)) (hfit : r.length < 2 ^ 62)
    (hn : r[k.toNat]? = some none → Q .none s) (hi : ∀ i t, r[k.toNat]? = some (some i) → Q (.int i t) s)
    (hsub : subscripted slice false (.ref l) (.int k u) = operate [.ref l, .int k u] (getItem (.ref l) (.int k u)) := by with_unfolding_all rfl) :
    wpAny (model prog w) A (subscriptTail value slice (.ref l) (.int k u)) Q E s := by
  refine kd_item N (hs _ hm) hd h0 (by rw [List.length_map]; exact h1) (by omega) (fun v d hk _ hD => ?_) hsub
  obtain ⟨o, ho, rfl⟩ := map_get hk
  rcases dat_opt hD with ⟨rfl, rfl⟩ | ⟨i, t, rfl, rfl⟩
  · exact hn ho
  · exact hi i t ho

theorem optD_inj : ∀ {a b : Option Int}, optD a = optD b → a = b
  | none, none, _ => rfl
  | some _, some _, h => by injection h with h; rw [h]
  | none, some _, h => by cases h
  | some _, none, h => by cases h
theorem map_inj {α β : Type} {f : α → β} (inj : ∀ {a b}, f a = f b → a = b) : ∀ {xs ys : List α}, xs.map f = ys.map f → xs = ys
  | [], [], _ => rfl
  | [], _ :: _, h => by cases h
  | _ :: _, [], h => by cases h
  | x :: xs, y :: ys, h => by
    injection h with h1 h2
    rw [inj h1, map_inj inj h2]
theorem decide_map {α : Type} [DecidableEq α] {f : α → Dat} (inj : ∀ {a b}, f a = f b → a = b) {rs qs : List α} {i : Decidable (rs.map f = qs.map f)} : @decide (rs.map f = qs.map f) i = decide (rs = qs) := by
  by_cases q : rs = qs
  · rw [decide_eq_true q]; exact decide_eq_true (by rw [q])
  · rw [decide_eq_false q]; exact decide_eq_false fun e => q (map_inj inj e)
theorem rowD_inj {a b : List (Option Int)} (h : rowD a = rowD b) : a = b := by
  injection h with h
  exact map_inj optD_inj h
theorem optD_ok (n : Nat) (o : Option Int) : kqdOk n (optD o) = true := by cases o <;> cases n <;> rfl
theorem opts_ok (n : Nat) (r : List (Option Int)) : ∀ d ∈ r.map optD, kqdOk n d = true := fun d hd => by
  obtain ⟨o, _, rfl⟩ := List.mem_map.mp hd
  exact optD_ok n o
theorem rowD_ok (n : Nat) (r : List (Option Int)) : kqdOk (n + 1) (rowD r) = true := by
  unfold rowD
  simp only [kqdOk, List.all_eq_true]
  exact opts_ok n r
theorem rows_ok (rs : List (List (Option Int))) : ∀ d ∈ rs.map rowD, kqdOk 8 d = true := fun d hd => by
  obtain ⟨o, _, rfl⟩ := List.mem_map.mp hd
  exact rowD_ok 7 o

theorem og_eq_gen {α : Type} [DecidableEq α] {f : α → Dat} (inj : ∀ a b, f a = f b → a = b) (ok : ∀ (rs : List α), ∀ d ∈ rs.map f, kqdOk 8 d = true) {xs ys : List Value} {ka kb : Nat} {rs qs : List α} {Q : Value → Shared → Prop}
    (ma : (a, listOf xs.toArray ka) ∈ led₁) (Da : DatAll led₁ xs (rs.map f)) (mb : (b, listOf ys.toArray kb) ∈ led₂) (Db : DatAll led₂ ys (qs.map f)) (N : News h₀ L s.heap news) (s1 : ∀ p ∈ led₁, p ∈ news) (s2 : ∀ p ∈ led₂, p ∈ news) (hu : A.units + 64 < cLine)
    (h : Q (.bool (decide (rs = qs))) s) : wpAny (model prog w) A (compareOp .Eq (.ref a) (.ref b)) Q E s := by
  refine kqd_eq N (s1 _ ma) rfl rfl Da s1 (s2 _ mb) rfl rfl Db s2 (ok rs) (ok qs) hu ?_
  rw [decide_map (fun h => inj _ _ h)]
  exact h
theorem og_ne_gen {α : Type} [DecidableEq α] {f : α → Dat} (inj : ∀ a b, f a = f b → a = b) (ok : ∀ (rs : List α), ∀ d ∈ rs.map f, kqdOk 8 d = true) {xs ys : List Value} {ka kb : Nat} {rs qs : List α} {Q : Value → Shared → Prop}
    (ma : (a, listOf xs.toArray ka) ∈ led₁) (Da : DatAll led₁ xs (rs.map f)) (mb : (b, listOf ys.toArray kb) ∈ led₂) (Db : DatAll led₂ ys (qs.map f)) (N : News h₀ L s.heap news) (s1 : ∀ p ∈ led₁, p ∈ news) (s2 : ∀ p ∈ led₂, p ∈ news) (hu : A.units + 64 < cLine)
    (h : Q (.bool (!decide (rs = qs))) s) : wpAny (model prog w) A (compareOp .NotEq (.ref a) (.ref b)) Q E s := by
  refine kqd_ne N (s1 _ ma) rfl rfl Da s1 (s2 _ mb) rfl rfl Db s2 (ok rs) (ok qs) hu ?_
  rw [decide_map (fun h => inj _ _ h)]
  exact h
end data
noncomputable def Small (rs : List (List (Option Int))) : Prop := rs.length < 2 ^ 32 ∧ ∀ r ∈ rs, r.length < 2 ^ 32
theorem small_row {rs : List (List (Option Int))} {r : List (Option Int)} (h : Small rs) (hm : r ∈ rs) : r.length < 2 ^ 32 := h.2 r hm
theorem dall_nil {α : Type} {f : α → Dat} {led : Led} : DatAll led [] (([] : List α).map f) := .nil
theorem dall_none {led : Led} : DatAll led [.none] (([none] : List (Option Int)).map optD) := .cons .none .nil
theorem dall_int {led : Led} {i : Int} {t : Tok} : DatAll led [.int i t] (([some i] : List (Option Int)).map optD) := .cons (.int i t) .nil

theorem lookup_kst : ∀ (bs : List (Str × Value)) (y : Str), (bs.map (·.1)).Nodup → bs.reverse.lookup y = kstB (fun _ => none) bs y := by
  intro bs y
  have key : ∀ (l : List (Str × Value)), (∀ p ∈ l, p.1 ≠ y) → l.lookup y = none := by
    intro l h
    induction l with
    | nil => rfl
    | cons p r ih =>
      have h1 : (y == p.1) = false := beq_eq_false_iff_ne.mpr fun e => h p (.head _) e.symm
      rw [List.lookup_cons, h1]
      exact ih fun q hq => h q (.tail _ hq)
  have app : ∀ (l r : List (Str × Value)), (l ++ r).lookup y = (l.lookup y).or (r.lookup y) := by
    intro l r
    induction l with
    | nil => rfl
    | cons p q ih =>
      rw [List.cons_append, List.lookup_cons, List.lookup_cons]
      cases y == p.1 with
      | true => rfl
      | false => exact ih
  induction bs with
  | nil => intro _; rfl
  | cons p r ih =>
    intro hn
    rw [List.map_cons, List.nodup_cons] at hn
    rw [List.reverse_cons, app]
    show _ = if y = p.1 then some p.2 else kstB (fun _ => none) r y
    by_cases e : y = p.1
    · rw [if_pos e, key r.reverse fun q hq e2 => hn.1 (List.mem_map.mpr ⟨q, List.mem_reverse.mp hq, by rw [e2, e]⟩)]
      subst e
      obtain ⟨a, b⟩ := p
      show List.lookup a [(a, b)] = some b
      rw [List.lookup_cons, beq_self_eq_true]
    · rw [if_neg e, ih hn.2]
      have h1 : (y == p.1) = false := beq_eq_false_iff_ne.mpr e
      have h2 : [p].lookup y = none := by rw [List.lookup_cons, h1]; rfl
      rw [h2, Option.or_none]

theorem zip_mem : ∀ {ns : List Str} {vs : List Value} {x : Str}, x ∈ (ns.zip vs).map (·.1) → x ∈ ns
  | [], _, _, h => by simp at h
  | _ :: _, [], _, h => by simp at h
  | n :: ns, v :: vs, x, h => by
    rw [List.zip_cons_cons, List.map_cons] at h
    rcases List.mem_cons.mp h with h | h
    · exact List.mem_cons.mpr (.inl h)
    · exact List.mem_cons.mpr (.inr (zip_mem h))
theorem zip_nodup : ∀ {ns : List Str} {vs : List Value}, ns.Nodup → ((ns.zip vs).map (·.1)).Nodup
  | [], _, _ => by simp
  | _ :: _, [], _ => by simp
  | n :: ns, v :: vs, h => by
    rw [List.nodup_cons] at h
    rw [List.zip_cons_cons, List.map_cons, List.nodup_cons]
    exact ⟨fun q => h.1 (zip_mem q), zip_nodup h.2⟩

section enter
variable {prog : Program} {w : World} {A A₀ : Around} {s : Shared} {K : Frag} {L : Addr} {h₀ base : Heap} {m mg mb : Str → Option Value} {news : Led} {p : Program} {loose : List Str} {mean : ExcName → Option Value}
theorem code_pos {env : Env} {outer : List Env} {R : Result → Shared → Prop} {name qual : Str} {params : Arguments} {body : List Stmt} {scope : Scope} {dV kV doc pm cdv ct oc : Value} {an od : Option Addr} {osl : Array (Option Value)} {f : Addr} {vals : List Value} {names : List Str} {binds : List (Str × Value)}
    (B : Below A₀ base outer h₀) (F : Fr h₀ L s.heap m) (X₀ : K.In h₀) (N : News h₀ L s.heap news) (T : Top p loose mean mg mb h₀) (hA : A.frames = some (env :: outer)) (hf : env.frame = some L) (hke : env.scope.kind = .function)
    (ho : K.lookup f = some ⟨oc, od, .func (fnOf name qual params body scope dV kV doc pm an cdv ct), osl⟩) (hcd : codeIn K cdv qual = true) (hroom : A.depth < recursionLimit)
    (_hn : params.args.map (·.arg) = names) (hb : names.zip vals = binds)
    (hbind : BindsTo s (fnOf name qual params body scope dV kV doc pm an cdv ct) ⟨vals, []⟩ binds) (hloc : ∀ y ∈ binds, scope.names.lookup y.1 = some .local) (hnd : names.Nodup)
    (h : ∀ g L' h₁ tk, Fr h₀ L g m → Fr g L' h₁ (kstB (fun _ => none) binds) → News g L' h₁ news → Below A base (env :: outer) g → K.In g → Top p loose mean mg mb g →
      wpAny (model prog w) (A.deeper (envOf qual scope L' f cdv)) (execs body (envOf qual scope L' f cdv))
        (fun fl s' => LeaveK h₀ L m g R (match fl with | .ret v => v | _ => .none) s')
        (fun e s' => wpAny (model prog w) (A.deeper (envOf qual scope L' f cdv)) (leaving (envOf qual scope L' f cdv) e) (fun _ s'' => R (.error e) s'') (fun e' s'' => R (.error e') s'') s')
        { s with heap := h₁, toks := tk })
    (hco : scope.isCoroutine = false) (hgen : scope.isGenerator = false) (hk : scope.kind = .function)
    (hcell : ∀ x ∈ scope.names, x.2 ≠ .cell) : codeAny (model prog w) A (.call (.ref f) ⟨vals, []⟩) R s := by
  refine code_def B F X₀ N T hA hf hke ho hcd hroom hbind hloc (fun g L' h₁ FG F' N' B' X' T' => ?_) hco hgen hk hcell
  have e : (fun y => binds.reverse.lookup y) = kstB (fun _ => none) binds := funext fun y => lookup_kst binds y (hb ▸ zip_nodup hnd)
  rw [e] at F'
  exact h g L' h₁ _ FG F' N' B' X' T'
end enter
section data2
variable {prog : Program} {w : World} {A : Around} {E : Value → Shared → Prop} {s : Shared} {h₀ : Heap} {L l a b : Addr} {news led led₁ led₂ : Led}
theorem og_rowitem' {value slice : PySem.Expr} {us : List Value} {rs : List (List (Option Int))} {r : List (Option Int)} {n : Nat} {k : Int} {u : Tok} {Q : Value → Shared → Prop} (hm : (l, listOf us.toArray n) ∈ led) (hd : DatAll led us (rs.map rowD)) (N : News h₀ L s.heap news) (hs : ∀ p ∈ led, p ∈ news)
    (h0 : 0 ≤ k) (hr : rs[k.toNat]? = some r) (hfit : rs.length < 2 ^ 62)
    (h : ∀ b vs n', (b, listOf vs.toArray n') ∈ led → DatAll led vs (r.map optD) → Q (.ref b) s)
    (hsub : subscripted slice false (.ref l) (.int k u) = operate [.ref l, .int k u] (getItem (.ref l) (.int k u)) := by with_unfolding_all rfl) :
    wpAny (model prog w) A (subscriptTail value slice (.ref l) (.int k u)) Q E s := by
  have h1 : k < (rs.length : Int) := by
    have := (List.getElem?_eq_some_iff.mp hr).1
    omega
  refine og_rowitem hm hd N hs h0 h1 hfit (fun b vs n' r' hr' _ hb hv => ?_) hsub
  obtain rfl : r = r' := Option.some.inj (hr.symm.trans hr')
  exact h b vs n' hb hv
theorem len_pos_of {α : Type} [DecidableEq α] {r : List α} (h : decide (r = []) = false) : 0 < r.length := List.length_pos_iff.mpr (of_decide_eq_false h)
end data2
theorem news_sub {h₀ h : Heap} {L : Addr} {news news2 : Led} (N : News h₀ L h news) (hs : ∀ p ∈ news2, p ∈ news) : News h₀ L h news2 := fun p hp => N p (hs p hp)
section data3
variable {prog : Program} {w : World} {A : Around} {E : Value → Shared → Prop} {s : Shared} {h₀ : Heap} {L l a b : Addr} {news led led₁ led₂ : Led}
theorem og_optitemN {value slice : PySem.Expr} {us : List Value} {r : List (Option Int)} {n : Nat} {k : Int} {u : Tok} {Q : Value → Shared → Prop} (hm : (l, listOf us.toArray n) ∈ led) (hd : DatAll led us (r.map optD)) (N : News h₀ L s.heap news) (hs : ∀ p ∈ led, p ∈ news)
    (h0 : 0 ≤ k) (hr : r[k.toNat]? = some none) (hfit : r.length < 2 ^ 62) (h : Q .none s)
    (hsub : subscripted slice false (.ref l) (.int k u) = operate [.ref l, .int k u] (getItem (.ref l) (.int k u)) := by with_unfolding_all rfl) :
    wpAny (model prog w) A (subscriptTail value slice (.ref l) (.int k u)) Q E s := by
  have h1 : k < (r.length : Int) := by
    have := (List.getElem?_eq_some_iff.mp hr).1
    omega
  exact og_optitem hm hd N hs h0 h1 hfit (fun _ => h) (fun i t e => by rw [hr] at e; cases e) hsub
theorem og_optitemS {value slice : PySem.Expr} {us : List Value} {r : List (Option Int)} {n : Nat} {k i : Int} {u : Tok} {Q : Value → Shared → Prop} (hm : (l, listOf us.toArray n) ∈ led) (hd : DatAll led us (r.map optD)) (N : News h₀ L s.heap news) (hs : ∀ p ∈ led, p ∈ news)
    (h0 : 0 ≤ k) (hr : r[k.toNat]? = some (some i)) (hfit : r.length < 2 ^ 62) (h : ∀ t, Q (.int i t) s)
    (hsub : subscripted slice false (.ref l) (.int k u) = operate [.ref l, .int k u] (getItem (.ref l) (.int k u)) := by with_unfolding_all rfl) :
    wpAny (model prog w) A (subscriptTail value slice (.ref l) (.int k u)) Q E s := by
  have h1 : k < (r.length : Int) := by
    have := (List.getElem?_eq_some_iff.mp hr).1
    omega
  exact og_optitem hm hd N hs h0 h1 hfit (fun e => by rw [hr] at e; cases e) (fun j t e => by rw [hr] at e; cases e; exact h t) hsub
end data3
section comps
open LCg
variable {prog : Program} {w : World} {A : Around} {E : Value → Shared → Prop} {s : Shared} {h₀ : Heap} {L : Addr} {m : Str → Option Value} {env : Env} {news led : Led} {elt : Expr} {x : Str} {scope : Scope} {cl : List (Str × Addr)}

/-- the end of an element: what stood, what is new, the datum -/
noncomputable def CTurn (h₀ : Heap) (L : Addr) (m : Str → Option Value) (I : Addr) (oI : Obj) (C : Addr) (oC : Obj) (D : Addr) (oD : Obj) (led : Led) (d : Dat) (sh : Shared) (y : Value) (s₂ : Shared) : Prop :=
  ∃ h' tk' tl', s₂ = { sh with heap := h', toks := tk' } ∧ Fr h₀ L h' m ∧ News h₀ L h' ((I, oI) :: (C, oC) :: (D, oD) :: (led ++ tl')) ∧ Off3 I C D tl' ∧ Apart led tl' ∧ DatIn (led ++ tl') y d
theorem cturn0 {I C D : Addr} {oI oC oD : Obj} {d : Dat} {sh : Shared} {y : Value} {h' : Heap} {tk' : Nat} (F : Fr h₀ L h' m) (N : News h₀ L h' ((I, oI) :: (C, oC) :: (D, oD) :: led)) (hd : DatIn led y d) : CTurn h₀ L m I oI C oC D oD led d sh y { sh with heap := h', toks := tk' } :=
  ⟨h', tk', [], rfl, F, by rw [List.append_nil]; exact N, trivial, (fun _ h => nomatch h), by rw [List.append_nil]; exact hd⟩

theorem off3_append {I C D : Addr} {a b : Led} (h1 : Off3 I C D a) (h2 : Off3 I C D b) : Off3 I C D (a ++ b) := Off3.of fun p hp => by
  rcases List.mem_append.mp hp with h | h
  · exact h1.mem p h
  · exact h2.mem p h
theorem dall_append {vs ws : List Value} {ds es : List Dat} (h : DatAll led vs ds) (k : DatAll led ws es) : DatAll led (vs ++ ws) (ds ++ es) := h.append k

theorem og_rest {α : Type} {xs : List α} {n : Nat} {R : Value → α → Prop} {g : α → Dat} {S : Led → Prop} {P : Nat → Value → Prop} {Fin : List Value → Led → Prop} (hn : xs.length = n) (hP : ∀ i v, i < n → P i v → ∃ y, xs[i]? = some y ∧ R v y) (hS : ∀ tl, S (news ++ tl))
    (turn : ∀ (i : Nat) (y : α) v I oI C oC D oD m₂ tl h tk (E' : Value → Shared → Prop), xs[i]? = some y → R v y → NsObj oC m₂ → m₂ x = some v → Fr h₀ L h m → News h₀ L h ((I, oI) :: (C, oC) :: (D, oD) :: (news ++ tl)) → Off3 I C D (news ++ tl) → Apart news tl → ((@Ne Nat I C) ∧ (@Ne Nat I D) ∧ (@Ne Nat C D)) →
      wpAny (model prog w) A (eval elt (compEnvC scope cl C env)) (CTurn h₀ L m I oI C oC D oD (news ++ tl) (g y) { s with heap := h, toks := tk }) E' { s with heap := h, toks := tk })
    (fin : ∀ ys tl, Apart news tl → ys.length = xs.length → DatAll (news ++ tl) ys (xs.map g) → Fin ys (news ++ tl)) : CompRest prog w A h₀ L m env elt x scope cl s S P Fin n 0 [] news := by
  have key : ∀ (k i : Nat) (ys : List Value) (tl : Led), i + k = n → Apart news tl → DatAll (news ++ tl) ys ((xs.take i).map g) → CompRest prog w A h₀ L m env elt x scope cl s S P Fin k i ys (news ++ tl) := by
    intro k
    induction k with
    | zero =>
      intro i ys tl hi ha hd
      have e : xs.take i = xs := List.take_of_length_le (by omega)
      rw [e] at hd
      exact CompRest.zero (fin ys tl ha (by rw [hd.length, List.length_map]) hd)
    | succ k ih =>
      intro i ys tl hi ha hd
      refine CompRest.succ fun v I oI C oC D m₂ h tk E' hv hC hx F N off ne => ?_
      obtain ⟨y, hy, hR⟩ := hP i v (by omega) hv
      refine wpAny_mono (turn i y v I oI C oC D _ m₂ tl h tk E' hy hR hC hx F N off ha ne) (fun r s₂ hq => ?_) fun _ _ e => e
      obtain ⟨h', tk', tl', e, F', N', off', ha', hd'⟩ := hq
      have ha2 : Apart news (tl ++ tl') := fun p hp q hq => by
        rcases List.mem_append.mp hp with hp | hp
        · exact ha p hp q hq
        · exact ha' p hp q (List.mem_append_left _ hq)
      refine ⟨h', tk', news ++ (tl ++ tl'), e, F', by rw [← List.append_assoc]; exact N', by rw [← List.append_assoc]; exact off3_append off off', hS _, ?_⟩
      refine ih (i + 1) _ (tl ++ tl') (by omega) ha2 ?_
      rw [List.take_add_one, hy, List.map_append, ← List.append_assoc]
      exact (hd.mono fun p hp => List.mem_append_left _ hp).append (.one hd')
  have h0 := key n 0 [] [] (by omega) (fun _ h => nomatch h) (by simp only [List.take_zero, List.map_nil]; exact .nil)
  rw [List.append_nil] at h0
  exact h0

/-- a comprehension over a list of the ledger's -/
theorem og_src_list {α : Type} {f g : α → Dat} {xs : List α} {us : List Value} {ax : Addr} {k : Nat} {Fin : Shared → List Value → Led → Prop} (hm : (ax, listOf us.toArray k) ∈ led) (hd : DatAll led us (xs.map f)) (hh : A.handled = none) (F : Fr h₀ L s.heap m) (N : News h₀ L s.heap news) (hs : ∀ p ∈ led, p ∈ news) (hsz : xs.length < 2 ^ 24)
    (turn : ∀ (i : Nat) (y : α) v I oI C oC D oD m₂ tl h tk (E' : Value → Shared → Prop), xs[i]? = some y → DatIn led v (f y) → NsObj oC m₂ → m₂ x = some v → Fr h₀ L h m → News h₀ L h ((I, oI) :: (C, oC) :: (D, oD) :: (news ++ tl)) → Off3 I C D (news ++ tl) → Apart news tl → ((@Ne Nat I C) ∧ (@Ne Nat I D) ∧ (@Ne Nat C D)) →
      wpAny (model prog w) A (eval elt (compEnvC scope cl C env)) (CTurn h₀ L m I oI C oC D oD (news ++ tl) (g y) { s with heap := h, toks := tk }) E' { s with heap := h, toks := tk })
    (fin : ∀ h1 ys tl, Apart news tl → ys.length = xs.length → DatAll (news ++ tl) ys (xs.map g) → Fin { s with heap := h1 } ys (news ++ tl)) :
    CompSrc prog w A h₀ L m env elt x scope cl Fin (.ref ax) s := by
  have e : us.length = xs.length := by rw [hd.length, List.length_map]
  refine CompSrc.ledger hh F N (hs _ hm) (by rw [List.size_toArray, e, sizeLine_eq]; omega) fun h1 => ?_
  refine og_rest (R := fun v y => DatIn led v (f y)) (xs := xs) (by rw [List.size_toArray, e]) ?_ (fun tl => .inr ⟨_, List.mem_append_left _ (hs _ hm), rfl, _, rfl⟩) ?_ (fin h1)
  · intro i v hi hv
    rw [List.size_toArray, e] at hi
    obtain ⟨v', hv', hD⟩ := hd.get (k := i) (by rw [List.length_map]; exact hi)
    have hv2 : us[i]? = some v := by simpa using hv
    rw [hv2] at hv'
    cases hv'
    exact ⟨xs[i], List.getElem?_eq_getElem hi, by simpa using hD⟩
  · exact turn

/-- a comprehension over a range from nought -/
theorem og_src_range {n : Nat} {g : Nat → Dat} {r : Addr} {t u v : Tok} {b : Int} {Fin : Shared → List Value → Led → Prop} (hr : IsRange s.heap r 0 b 1 t u v) (hb : b = (n : Int)) (hh : A.handled = none) (F : Fr h₀ L s.heap m) (N : News h₀ L s.heap news) (hsz : n < 2 ^ 24)
    (turn : ∀ i v I oI C oC D oD m₂ tl h tk (E' : Value → Shared → Prop), i < n → (∃ t, v = .int (i : Int) t) → NsObj oC m₂ → m₂ x = some v → Fr h₀ L h m → News h₀ L h ((I, oI) :: (C, oC) :: (D, oD) :: (news ++ tl)) → Off3 I C D (news ++ tl) → Apart news tl → ((@Ne Nat I C) ∧ (@Ne Nat I D) ∧ (@Ne Nat C D)) →
      wpAny (model prog w) A (eval elt (compEnvC scope cl C env)) (CTurn h₀ L m I oI C oC D oD (news ++ tl) (g i) { s with heap := h, toks := tk }) E' { s with heap := h, toks := tk })
    (fin : ∀ h1 ys tl, Apart news tl → ys.length = n → DatAll (news ++ tl) ys ((List.range n).map g) → Fin { s with heap := h1 } ys (news ++ tl)) :
    CompSrc prog w A h₀ L m env elt x scope cl Fin (.ref r) s := by
  subst hb
  refine CompSrc.range (n := n) hh F N hr (small_one (by omega) (by omega) (by omega) (by omega)) (by first | exact rangeSize_nat _ _ | simpa using rangeSize_nat 0 n) (by rw [sizeLine_eq]; omega) fun h1 => ?_
  refine og_rest (R := fun v (y : Nat) => ∃ t, v = .int (y : Int) t) (xs := List.range n) List.length_range ?_ (fun _ => trivial) ?_ (fun ys tl a b c => fin h1 ys tl a (by rw [b, List.length_range]) c)
  · rintro i v hi ⟨t, rfl⟩
    refine ⟨i, by simp [hi], t, ?_⟩
    rw [Int.zero_add]
  · intro i y v I oI C oC D oD m₂ tl h tk E' hy hR hC hx F N off ha ne
    obtain ⟨hi, e⟩ : i < n ∧ y = i := by
      have := List.getElem?_eq_some_iff.mp hy
      obtain ⟨h1, h2⟩ := this
      rw [List.length_range] at h1
      exact ⟨h1, by rw [← h2, List.getElem_range]⟩
    subst e
    exact turn y v I oI C oC D oD m₂ tl h tk E' hi hR hC hx F N off ha ne
end comps
/-- a stop of the walk -/
noncomputable def Stop (P : Prop) : Prop := P
theorem Stop.out {P : Prop} (h : Stop P) : P := h
theorem Stop.mk {P : Prop} (h : P) : Stop P := h
section comps2
open LCg
variable {h₀ : Heap} {L : Addr} {m : Str → Option Value} {news led : Led}
theorem allLt_of' {d : Addr} : ∀ {l : Led}, AllLt d l → ∀ p ∈ l, p.1 < d
  | [], _, _, hp => (nomatch hp)
  | q :: r, h, p, hp => by
    rcases List.mem_cons.mp hp with rfl | hp
    · exact h.1
    · exact allLt_of' h.2 p hp
theorem cturn1 {I C D l : Addr} {oI oC oD o : Obj} {d : Dat} {sh : Shared} {y : Value} {h' : Heap} {tk' : Nat} (F : Fr h₀ L h' m) (N : News h₀ L h' ((l, o) :: (I, oI) :: (C, oC) :: (D, oD) :: led))
    (hl : (@LT.lt Nat _ I l) ∧ (@LT.lt Nat _ C l) ∧ (@LT.lt Nat _ D l) ∧ AllLt l led) (hd : DatIn (led ++ [(l, o)]) y d) : CTurn h₀ L m I oI C oC D oD led d sh y { sh with heap := h', toks := tk' } := by
  refine ⟨h', tk', [(l, o)], rfl, F, fun p hp => N p ?_, ⟨⟨Nat.ne_of_gt hl.1, Nat.ne_of_gt hl.2.1, Nat.ne_of_gt hl.2.2.1⟩, trivial⟩, ?_, hd⟩
  · simp only [List.mem_cons, List.mem_append, List.not_mem_nil, or_false] at hp ⊢
    rcases hp with hp | hp | hp | hp | hp
    · exact .inr (.inl hp)
    · exact .inr (.inr (.inl hp))
    · exact .inr (.inr (.inr (.inl hp)))
    · exact .inr (.inr (.inr (.inr hp)))
    · exact .inl hp
  · intro p hp q hq
    rw [List.mem_singleton.mp hp]
    exact Nat.ne_of_gt (allLt_of' hl.2.2.2 q hq)
end comps2
/-- what a def hands back that makes things and changes none: the ledger has grown, the answer bears the datum -/
noncomputable def Grown (news : Led) (d : Dat) (news' : Led) (r : Value) : Prop := ∃ tl, news' = news ++ tl ∧ Apart news tl ∧ DatIn (news ++ tl) r d
theorem grown_mk {h₀ h : Heap} {L : Addr} {news nw nwD : Led} {d : Dat} {r : Value} (tl : Led) (N : News h₀ L h nw) (s1 : ∀ p ∈ news ++ tl, p ∈ nw) (ha : Apart news tl) (hd : DatIn nwD r d) (s2 : ∀ p ∈ nwD, p ∈ news ++ tl) : News h₀ L h (news ++ tl) ∧ Grown news d (news ++ tl) r :=
  ⟨news_sub N s1, tl, rfl, ha, hd.mono s2⟩
section grown
open LCg
variable {h₀ h : Heap} {L D : Addr} {news tl : Led} {ys : List Value} {ds : List Dat} {kn : Nat}
theorem off1_mem : ∀ {l : Led}, Off1 D l → ∀ p ∈ l, p.1 ≠ D
  | [], _, _, hp => (nomatch hp)
  | q :: r, h, p, hp => by
    rcases List.mem_cons.mp hp with rfl | hp
    · exact h.1
    · exact off1_mem h.2 p hp
theorem grown_comp (N : News h₀ L h ((D, listOf ys.toArray kn) :: (news ++ tl))) (ha : Apart news tl) (o1 : Off1 D (news ++ tl)) (hd : DatAll (news ++ tl) ys ds) : ∃ nw, News h₀ L h nw ∧ Grown news (.list ds) nw (.ref D) := by
  refine ⟨_, grown_mk (tl ++ [(D, listOf ys.toArray kn)]) N (fun p hp => ?_) (fun p hp q hq => ?_) (DatIn.list (List.mem_append_right _ (.head _)) (hd.mono fun p hp => List.mem_append_left _ hp)) (fun p hp => by rw [← List.append_assoc]; exact hp)⟩
  · rw [← List.append_assoc] at hp
    rcases List.mem_append.mp hp with hp | hp
    · exact List.mem_cons_of_mem _ hp
    · rw [List.mem_singleton.mp hp]; exact .head _
  · rcases List.mem_append.mp hp with hp | hp
    · exact ha p hp q hq
    · rw [List.mem_singleton.mp hp]
      exact (off1_mem o1 q (List.mem_append_left _ hq)).symm
theorem grown_comp1 {c : Addr × Obj} (N : News h₀ L h ((D, listOf ys.toArray kn) :: (c :: (news ++ tl)))) (ha : Apart (c :: news) tl) (hc : ∀ q ∈ news, q.1 ≠ c.1) (o1 : Off1 D (c :: (news ++ tl))) (hd : DatAll (c :: (news ++ tl)) ys ds) : ∃ nw, News h₀ L h nw ∧ Grown news (.list ds) nw (.ref D) := by
  have hs : ∀ p ∈ c :: (news ++ tl), p ∈ news ++ (c :: tl) := fun p hp => by
    simp only [List.mem_cons, List.mem_append] at hp ⊢
    rcases hp with hp | hp | hp
    · exact .inr (.inl hp)
    · exact .inl hp
    · exact .inr (.inr hp)
  have hs' : ∀ p ∈ news ++ (c :: tl), p ∈ c :: (news ++ tl) := fun p hp => by
    simp only [List.mem_cons, List.mem_append] at hp ⊢
    rcases hp with hp | hp | hp
    · exact .inr (.inl hp)
    · exact .inl hp
    · exact .inr (.inr hp)
  refine grown_comp (kn := kn) (tl := c :: tl) (fun p hp => ?_) (fun p hp q hq => ?_) ?_ (hd.mono hs)
  · rcases List.mem_cons.mp hp with rfl | hp
    · exact N _ (.head _)
    · exact N p (List.mem_cons_of_mem _ (hs' p hp))
  · rcases List.mem_cons.mp hp with rfl | hp
    · exact (hc q hq).symm
    · exact ha p hp q (List.mem_cons_of_mem _ hq)
  · have all : ∀ (l : Led), (∀ p ∈ l, p.1 ≠ D) → Off1 D l := by
      intro l
      induction l with
      | nil => intro _; trivial
      | cons p r ih => exact fun h => ⟨h p (.head _), ih fun q hq => h q (.tail _ hq)⟩
    exact all _ fun p hp => off1_mem o1 p (hs' p hp)
end grown
section subs
variable {a b : Addr × Obj} {x y z r : Led}
theorem sub_nil : ∀ p ∈ ([] : Led), p ∈ y := fun _ h => nomatch h
theorem sub_cons (h1 : a ∈ y) (h2 : ∀ p ∈ r, p ∈ y) : ∀ p ∈ a :: r, p ∈ y := fun p hp => by
  rcases List.mem_cons.mp hp with rfl | hp
  · exact h1
  · exact h2 p hp
theorem sub_app (h1 : ∀ p ∈ x, p ∈ z) (h2 : ∀ p ∈ y, p ∈ z) : ∀ p ∈ x ++ y, p ∈ z := fun p hp => (List.mem_append.mp hp).elim (h1 p) (h2 p)
theorem sub_self : ∀ p ∈ x, p ∈ x := fun _ h => h
theorem sub_tail (h : ∀ p ∈ x, p ∈ r) : ∀ p ∈ x, p ∈ b :: r := fun p hp => List.mem_cons_of_mem _ (h p hp)
theorem sub_tail_self : ∀ p ∈ r, p ∈ b :: r := fun _ h => List.mem_cons_of_mem _ h
theorem sub_left (h : ∀ p ∈ x, p ∈ y) : ∀ p ∈ x, p ∈ y ++ z := fun p hp => List.mem_append_left _ (h p hp)
theorem sub_right (h : ∀ p ∈ x, p ∈ z) : ∀ p ∈ x, p ∈ y ++ z := fun p hp => List.mem_append_right _ (h p hp)
end subs
section apart
variable {l a : Addr} {o oa : Obj} {rest : Led}
theorem apart_rest (h : AllLt l rest) : ∀ q ∈ rest, l ≠ q.1 := fun q hq => Nat.ne_of_gt (allLt_of' h q hq)
theorem apart_more (h : @Ne Nat l a) (k : ∀ q ∈ rest, l ≠ q.1) : ∀ q ∈ (a, oa) :: rest, l ≠ q.1 := fun q hq => by
  rcases List.mem_cons.mp hq with rfl | hq
  · exact h
  · exact k q hq
theorem apart_one (h : @Ne Nat l a) (k : ∀ q ∈ rest, l ≠ q.1) : Apart ((a, oa) :: rest) [(l, o)] := fun p hp q hq => by
  rw [List.mem_singleton.mp hp]
  exact apart_more h k q hq
end apart
section bytes
open Builtin
theorem slot_split : Slot "bytes" "split" "bytes.split" :=
  .of (owner := "bytes") (n := "split") (by rw [typeLookup_type, builtinLookup_eq_fast]; kernel_rfl) (by decide +kernel) (by decide +kernel) (by decide +kernel)
    (by first | exact .inl (by decide +kernel) | exact .inr (by decide +kernel)) (by rw [isSubtype_type]; kernel_rfl)
theorem type_split : typeOf (.builtin "bytes.split") = pure (.type "method_descriptor") := by show builtinType _ = _; rw [builtinType_eq_fast]; kernel_rfl
theorem entry_split : entryFor table "bytes.split" = some Builtin.«bytes.split» := entryFor_of_tree (by kernel_rfl)
theorem args_split (a b : Value) : argsOk "bytes.split" ⟨[a, b], []⟩ := by unfold argsOk; kernel_rfl
theorem slot_join : Slot "bytes" "join" "bytes.join" :=
  .of (owner := "bytes") (n := "join") (by rw [typeLookup_type, builtinLookup_eq_fast]; kernel_rfl) (by decide +kernel) (by decide +kernel) (by decide +kernel)
    (by first | exact .inl (by decide +kernel) | exact .inr (by decide +kernel)) (by rw [isSubtype_type]; kernel_rfl)
theorem type_join : typeOf (.builtin "bytes.join") = pure (.type "method_descriptor") := by show builtinType _ = _; rw [builtinType_eq_fast]; kernel_rfl
theorem entry_join : entryFor table "bytes.join" = some Builtin.«bytes.join» := entryFor_of_tree (by kernel_rfl)
theorem args_join (a b : Value) : argsOk "bytes.join" ⟨[a, b], []⟩ := by unfold argsOk; kernel_rfl
theorem split_bind (v : Value) : Bytes.bindOptional "bytes.split" "split" ["sep", "maxsplit"] [v] [] = pure [some v, none] := by kernel_rfl

theorem method_split {M : Model} {A : Around} {E : Value → Shared → Prop} {s : Shared} {b : Array UInt8} {t : Tok} {pl : Sem Bool} {Q : Value × List Value → Shared → Prop} (h : Q (.builtin "bytes.split", [.bytes b t]) s) : wpAny M A (getMethod (.bytes b t) "split" pl) Q E s := by
  with_reducible exact KBd.method_of (.bytes b t) (typeIs_bytes _ _ _) slot_split type_split KBd.noRef h
theorem method_join {M : Model} {A : Around} {E : Value → Shared → Prop} {s : Shared} {b : Array UInt8} {t : Tok} {pl : Sem Bool} {Q : Value × List Value → Shared → Prop} (h : Q (.builtin "bytes.join", [.bytes b t]) s) : wpAny M A (getMethod (.bytes b t) "join" pl) Q E s := by
  with_reducible exact KBd.method_of (.bytes b t) (typeIs_bytes _ _ _) slot_join type_join KBd.noRef h

noncomputable def bytesFrom : Tok → List (Array UInt8) → List Value
  | _, [] => []
  | t, b :: r => .bytes b t :: bytesFrom (t + 1) r
theorem bytesFrom_len : ∀ (xs : List (Array UInt8)) (t : Tok), (bytesFrom t xs).length = xs.length
  | [], _ => rfl
  | _ :: r, t => by show (bytesFrom (t + 1) r).length + 1 = _; rw [bytesFrom_len r]; rfl
theorem bytesFrom_dat {led : Led} : ∀ (xs : List (Array UInt8)) (t : Tok), DatAll led (bytesFrom t xs) (xs.map Dat.bytes)
  | [], _ => .nil
  | b :: r, t => .cons (.bytes b t) (bytesFrom_dat r (t + 1))
theorem mapM_mkBytes {M : Model} {A : Around} {E : Value → Shared → Prop} : ∀ (xs : List (Array UInt8)) (s : Shared) (Q : List Value → Shared → Prop), (∀ x ∈ xs, x.size ≤ sizeLine) → Q (bytesFrom s.toks xs) { s with toks := s.toks + xs.length } → wpAny M A (xs.mapM mkBytes) Q E s
  | [], s, Q, _, h => by rw [List.mapM_nil]; exact wpAny_pure h
  | x :: r, s, Q, hx, h => by
    rw [List.mapM_cons]
    refine wpAny_bind (wpAny_mkBytes (wpAny_bind (mapM_mkBytes r _ _ (fun y hy => hx y (List.mem_cons_of_mem _ hy)) (wpAny_pure ?_))) (hx x (List.mem_cons_self ..)))
    have e : s.toks + 1 + r.length = s.toks + (x :: r).length := by simp [Nat.add_comm, Nat.add_left_comm]
    show Q (.bytes x s.toks :: bytesFrom (s.toks + 1) r) { s with toks := s.toks + 1 + r.length }
    rw [e]; exact h

/-- what the semantics says the parts are -/
noncomputable def cutAt (c : UInt8) (b : Array UInt8) : List (Array UInt8) :=
  if ((Bytes.occurrences b #[c] 0 b.size).take (b.size + 1)).isEmpty then [b] else Bytes.between b 1 ((Bytes.occurrences b #[c] 0 b.size).take (b.size + 1))

section
variable {prog : Program} {w : World} {A : Around} {E : Value → Shared → Prop} {s : Shared} {h₀ : Heap} {L : Addr} {m : Str → Option Value} {news : Led}
theorem og_split {b : Array UInt8} {c : UInt8} {t u : Tok} {Q : Value → Shared → Prop} (F : Fr h₀ L s.heap m) (N : News h₀ L s.heap news) (hsz : ∀ p ∈ cutAt c b, p.size ≤ 16777216) (hn : (cutAt c b).length ≤ 16777216)
    (h : ∀ l h' tk vs, Fr h₀ L h' m → News h₀ L h' ((l, listOf vs.toArray 0) :: news) → (∀ p ∈ news, p.1 < l) → DatAll news vs ((cutAt c b).map Dat.bytes) → Q (.ref l) { s with heap := h', toks := tk }) :
    wpAny (model prog w) A (call (.builtin "bytes.split") [.bytes b t, .bytes #[c] u]) Q E s := by
  refine wpAny_call_entry slot_split (typeIs_bytes _ _ _) entry_split ?_ (args_split _ _)
  show wpAny _ _ (Bytes.bindOptional "bytes.split" "split" ["sep", "maxsplit"] [.bytes #[c] u] [] >>= _) _ _ _
  rw [split_bind]
  refine wpAny_bind (wpAny_pure ?_)
  dsimp only
  refine wpAny_bind (wpAny_pure ?_)
  refine wpAny_bind (wpAny_of_eq (a := b) rfl ?_)
  refine wpAny_bind (wpAny_of_eq KBd.like_eq ?_)
  refine bm_if_false rfl ?_
  have e1 : (if (-1 : Int) < 0 then b.size + 1 else (-1 : Int).toNat) = b.size + 1 := if_pos (by decide)
  rw [e1]
  show wpAny _ _ (if ((Bytes.occurrences b #[c] 0 b.size).take (b.size + 1)).isEmpty = true then _ else _) _ _ _
  have key : ∀ (vs : List Value) (tk : Nat), vs.length ≤ 16777216 → DatAll news vs ((cutAt c b).map Dat.bytes) → wpAny (model prog w) A.in1 (newList vs >>= fun v => ret v) (fun fin s' => ∃ v, fin = .done (.ret v) ∧ Q v s') E { s with toks := tk } := by
    intro vs tk hvs hd
    exact wpAny_bind (newList_K (s := { s with toks := tk }) F N (fun l h' F' N' hl => wpAny_pure ⟨_, rfl, h l h' tk vs F' N' hl hd⟩) (by rw [sizeLine_eq]; exact hvs))
  unfold cutAt at hsz hn h key
  by_cases hp : ((Bytes.occurrences b #[c] 0 b.size).take (b.size + 1)).isEmpty = true
  · rw [if_pos hp] at hsz hn h key
    refine bm_if_true hp ?_
    refine wpAny_bind (wpAny_rule ?_)
    refine wpAny_bind ?_
    unfold Bytes.Kind.same
    refine bm_if_true rfl ?_
    refine wpAny_bind (wpAny_typeOf (typeIs_bytes _ _ _) ?_)
    refine bm_if_true (by decide) ?_
    exact wpAny_pure (key [.bytes b t] s.toks (by simp) (.cons (.bytes b t) .nil))
  · have hp' : ((Bytes.occurrences b #[c] 0 b.size).take (b.size + 1)).isEmpty = false := by simpa using hp
    rw [if_neg hp] at hsz hn h key
    refine bm_if_false hp' ?_
    refine wpAny_bind (mapM_mkBytes _ _ _ (fun x hx => by rw [sizeLine_eq]; exact hsz x hx) ?_)
    exact key _ _ (by rw [bytesFrom_len]; exact hn) (bytesFrom_dat _ _)
end
end bytes
section join
open Builtin
theorem wp_range {M : Model} {A : Around} {E : Value → Shared → Prop} {s : Shared} {β : Type} {n : Nat} {f : Nat → β → Sem (ForInStep β)} {init : β} {Q : β → Shared → Prop} (I : Nat → β → Prop) (h0 : I 0 init)
    (step : ∀ i b, i < n → I i b → wpAny M A (f i b) (fun r s' => s' = s ∧ ∃ b', r = .yield b' ∧ I (i + 1) b') E s) (done : ∀ b, I n b → Q b s) : wpAny M A (forIn [0:n] init f) Q E s := by
  have key : ∀ (k i : Nat) (b : β), i + k = n → I i b → wpAny M A (forIn (List.range' i k) b f) Q E s := by
    intro k
    induction k with
    | zero =>
      intro i b hi hb
      obtain rfl : i = n := by omega
      exact wpAny_pure (done b hb)
    | succ k ih =>
      intro i b hi hb
      rw [List.range'_succ, List.forIn_cons]
      refine wpAny_bind (wpAny_mono (step i b (by omega) hb) (fun r s' h => ?_) fun _ _ h => h)
      obtain ⟨rfl, b', rfl, hb'⟩ := h
      exact ih (i + 1) b' (by omega) hb'
  have e : (forIn [0:n] init f : Sem β) = forIn (List.range' 0 n) init f := by simp
  rw [e]
  exact key n 0 init (by omega) h0
theorem take_eq {id : String} {b : Array UInt8} {t : Tok} : Bytes.takeBufferQuiet? id (.bytes b t) 0 = pure (some (b, none)) := by
  unfold Bytes.takeBufferQuiet? Bytes.takeBuffer?
  rw [show ((0 : Int) == Bytes.fullReadOnly) = false from by decide +kernel, KBy.special_eq KBy.look_buffer, KBy.own_buffer, KBy.buffer_eq]
  kernel_rfl
theorem letGo_pass {M : Model} {A : Around} {E : Value → Shared → Prop} {s : Shared} {Q : Unit → Shared → Prop} : ∀ (vs : List Value) (keep : List Value), Q () s → wpAny M A (Bytes.joinLetGo (vs.map fun v => (v, none)) keep) Q E s
  | [], _, h => wpAny_pure h
  | v :: r, keep, h => by
    show wpAny M A (do letGo [v] _; Bytes.joinLetGo (r.map fun v => (v, none)) keep) _ _ _
    exact wpAny_bind (wpAny_letGo (letGo_pass r keep h))
theorem joined_one (sep b : Array UInt8) : Bytes.joined sep [b] = b := by
  show (#[] : Array UInt8) ++ b = b
  exact Array.empty_append
theorem parts_sum (bs : List (Array UInt8)) (k : Nat) : bs.toArray.foldl (fun x y => x + y.size) k = k + (bs.map (·.size)).sum := by
  rw [List.foldl_toArray]
  induction bs generalizing k with
  | nil => simp
  | cons b r ih => rw [List.foldl_cons, ih, List.map_cons, List.sum_cons]; omega
noncomputable def joinLen (sep : Array UInt8) (bs : List (Array UInt8)) : Nat := (bs.map (·.size)).sum + sep.size * bs.length
theorem joined_size (sep : Array UInt8) (bs : List (Array UInt8)) : (Bytes.joined sep bs).size ≤ joinLen sep bs := by
  have key : ∀ (l : List (Array UInt8)) (k : Nat) (out : Array UInt8), ((l.zipIdx k).foldl (fun out (p, i) => (if i > 0 then out ++ sep else out) ++ p) out).size ≤ out.size + joinLen sep l := by
    intro l
    induction l with
    | nil => intro k out; simp [joinLen]
    | cons b r ih =>
      intro k out
      rw [List.zipIdx_cons, List.foldl_cons]
      refine Nat.le_trans (ih _ _) ?_
      have e : joinLen sep (b :: r) = b.size + sep.size + joinLen sep r := by
        simp only [joinLen, List.map_cons, List.sum_cons, List.length_cons, Nat.mul_add, Nat.mul_one]; omega
      rw [e]
      dsimp only
      split
      · simp only [Array.size_append]; omega
      · simp only [Array.size_append]; omega
  have := key bs 0 #[]
  simpa [Bytes.joined] using this
variable {prog : Program} {w : World} {A : Around} {E : Value → Shared → Prop} {s : Shared} {h₀ : Heap} {L : Addr} {m : Str → Option Value} {news led : Led}
theorem og_join {sep : Array UInt8} {t : Tok} {l : Addr} {vs : List Value} {n : Nat} {bs : List (Array UInt8)} {Q : Value → Shared → Prop} (hm : (l, listOf vs.toArray n) ∈ led) (hd : DatAll led vs (bs.map Dat.bytes)) (N : News h₀ L s.heap news) (hs : ∀ p ∈ led, p ∈ news)
    (hsz : joinLen sep bs ≤ 16777216) (h : ∀ t' tk, Q (.bytes (Bytes.joined sep bs) t') { s with toks := tk }) :
    wpAny (model prog w) A (call (.builtin "bytes.join") [.bytes sep t, .ref l]) Q E s := by
  have ho : s.heap.get? l = some (listOf vs.toArray n) := (N _ (hs _ hm)).1
  refine wpAny_call_entry slot_join (typeIs_bytes _ _ _) entry_join ?_ (args_join _ _)
  refine wpAny_bind (wpAny_of_eq (a := (Value.bytes sep t, Value.ref l)) rfl ?_)
  dsimp only
  refine bm_if_true rfl ?_
  have hl : s.heap.IsList l vs.toArray := ⟨_, ho, rfl, n, rfl⟩
  refine wpAny_bind ?_
  unfold Bytes.joinItems
  refine wpAny_bind (wpAny_typeOf hl.typeIs ?_)
  refine bm_if_true (by decide) ?_
  refine wpAny_pure ?_
  refine wpAny_bind ?_
  unfold seqItems?
  refine wpAny_bind (wpAny_load ho ?_)
  refine wpAny_pure ?_
  dsimp only
  refine bm_if_true rfl ?_
  have hall : ∀ i, i < vs.length → ∃ b t', vs[i]? = some (.bytes b t') ∧ bs[i]? = some b := fun i hi => by
    have e := hd.length
    rw [List.length_map] at e
    obtain ⟨v, hv, hD⟩ := hd.get (k := i) (by rw [List.length_map]; omega)
    rw [List.getElem_map] at hD
    have hb : bs[i]? = some (bs[i]'(by omega)) := List.getElem?_eq_getElem (by omega)
    generalize bs[i]'(by omega) = b at hD hb
    cases hD with
    | bytes _ t' => exact ⟨b, t', hv, hb⟩
  have hheap : ∀ i, (((vs.take i).map fun v => (v, (none : Option Value))).any fun x => x.1.onHeap) = false := fun i => by
    rw [List.any_eq_false]
    intro x hx
    obtain ⟨v, hv, rfl⟩ := List.mem_map.mp hx
    obtain ⟨k, hk, rfl⟩ := List.getElem_of_mem (List.mem_of_mem_take hv)
    obtain ⟨b, t', h1, _⟩ := hall k hk
    rw [List.getElem?_eq_getElem hk] at h1
    have h2 := Option.some.inj h1
    show ¬ (vs[k].onHeap = true)
    rw [h2]
    exact Bool.false_ne_true
  have hlen : vs.length = bs.length := by
    have e := hd.length
    rwa [List.length_map] at e
  have step : ∀ (X : List Value), X = vs → ∀ i (parts : Array (Array UInt8)) (taken : List (Value × Option Value)), i < X.length → parts.toList = bs.take i → taken = ((X.take i).map fun v => (v, none)) → ∃ b t', X.toArray.getD i .none = .bytes b t' ∧
      (Bytes.Kind.bytes == Bytes.Kind.bytearray || taken.any fun x => x.1.onHeap) = false ∧ (parts.push b).toList = bs.take (i + 1) ∧ taken ++ [(.bytes b t', none)] = ((X.take (i + 1)).map fun v => (v, none)) := by
    rintro X rfl i parts taken hi e1 rfl
    obtain ⟨b, t', h1, h2⟩ := hall i hi
    refine ⟨b, t', by simp [h1], by rw [hheap i]; rfl, ?_, ?_⟩
    · rw [Array.toList_push, e1, List.take_add_one, h2]; rfl
    · rw [List.take_add_one, h1]; simp
  have last : ∀ (X : List Value), X = vs → ∀ (parts : Array (Array UInt8)) (taken : List (Value × Option Value)), parts.toList = bs.take X.length → taken = ((X.take X.length).map fun v => (v, none)) → parts = bs.toArray ∧ taken = vs.map fun v => (v, none) := by
    rintro X rfl parts taken e1 rfl
    rw [hlen, List.take_length] at e1
    exact ⟨by rw [← e1], by rw [List.take_length]⟩
  have fin : ∀ tk, wpAny (model prog w) A.in1 (do
      let sep ← Bytes.payload (.bytes sep t)
      if Bytes.tooLong (bs.toArray.foldl (· + ·.size) (sep.size * (bs.toArray.size - 1))) then unsupported "bytes.join:memory"
      let result ← mkBytes (Bytes.joined sep bs.toArray.toList)
      holding (result :: (vs.map fun v => (v, (none : Option Value))).flatMap fun (y, u) => y :: u.toList) point
      Bytes.joinLetGo (vs.map fun v => (v, none)) [result]
      ret result) (fun fin s' => ∃ v, fin = .done (.ret v) ∧ Q v s') E { s with toks := tk } := by
    intro tk
    refine wpAny_bind (wpAny_of_eq (a := sep) rfl ?_)
    unfold joinLen at hsz
    have e1 : sep.size * (bs.length - 1) ≤ sep.size * bs.length := Nat.mul_le_mul_left _ (Nat.sub_le _ _)
    refine bm_if_false (KBy.tooLong_not ?_) ?_
    · rw [parts_sum]
      have e2 : bs.toArray.size = bs.length := List.size_toArray ..
      rw [e2]
      show sep.size * (bs.length - 1) + _ ≤ _
      omega
    refine wpAny_bind (wpAny_mkBytes ?_ (by rw [sizeLine_eq]; exact Nat.le_trans (joined_size _ _) hsz))
    refine wpAny_bind (wpAny_holding (wpAny_point ?_))
    refine wpAny_bind (letGo_pass _ _ ?_)
    exact wpAny_pure ⟨_, rfl, h _ _⟩
  rcases vs with _ | ⟨v1, _ | ⟨v2, vr⟩⟩
  · refine wpAny_bind (wp_range (n := ([] : List Value).toArray.size) (fun i (st : Array (Array UInt8) × List (Value × Option Value)) => st.1.toList = bs.take i ∧ st.2 = (([] : List Value).take i).map fun v => (v, none)) ⟨rfl, rfl⟩ (fun i _ hi => absurd hi (Nat.not_lt_zero _)) ?_)
    rintro ⟨parts, taken⟩ ⟨e1, e2⟩
    obtain ⟨rfl, rfl⟩ := last _ rfl parts taken e1 e2
    exact fin s.toks
  · obtain ⟨b, t', h1, h2⟩ := hall 0 (by simp)
    have hb : bs = [b] := by
      match bs, hlen, h2 with
      | [_], _, h2 => rw [Option.some.inj h2]
    have hv : v1 = .bytes b t' := Option.some.inj h1
    subst hb
    subst hv
    refine wpAny_bind (wpAny_typeOf (typeIs_bytes _ _ _) ?_)
    refine bm_if_true (by decide) ?_
    refine wpAny_bind (wpAny_rule (wpAny_pure ⟨_, rfl, ?_⟩))
    have h' := h t' s.toks
    rw [joined_one] at h'
    exact h'
  · refine wpAny_bind (wp_range (n := (v1 :: v2 :: vr).toArray.size) (fun i (st : Array (Array UInt8) × List (Value × Option Value)) => st.1.toList = bs.take i ∧ st.2 = ((v1 :: v2 :: vr).take i).map fun v => (v, none)) ⟨rfl, rfl⟩ ?_ ?_)
    · rintro i ⟨parts, taken⟩ hi ⟨e1, e2⟩
      rw [List.size_toArray] at hi
      obtain ⟨b, t', hg, hh, hp, ht⟩ := step _ rfl i parts taken hi e1 e2
      refine wpAny_bind (wpAny_bind (wpAny_load ho (wpAny_pure ?_)))
      dsimp only
      rw [hg]
      refine bm_if_false hh ?_
      rw [take_eq]
      refine wpAny_bind (wpAny_holding (wpAny_pure ?_))
      dsimp only
      refine wpAny_bind (wpAny_bind (wpAny_load ho (wpAny_pure ?_)))
      dsimp only
      refine bm_if_false (by simp) ?_
      exact wpAny_pure ⟨rfl, _, rfl, hp, ht⟩
    · rintro ⟨parts, taken⟩ ⟨e1, e2⟩
      rw [List.size_toArray] at e1 e2
      obtain ⟨rfl, rfl⟩ := last _ rfl parts taken e1 e2
      exact fin s.toks
end join
theorem DatAll.take {news : Led} : ∀ {vs : List Value} {ds : List Dat} (k : Nat), DatAll news vs ds → DatAll news (vs.take k) (ds.take k)
  | _, _, 0, _ => by rw [List.take_zero, List.take_zero]; exact .nil
  | _, _, _ + 1, .nil => .nil
  | _, _, k + 1, .cons h r => .cons h (DatAll.take k r)
theorem DatAll.drop {news : Led} : ∀ {vs : List Value} {ds : List Dat} (k : Nat), DatAll news vs ds → DatAll news (vs.drop k) (ds.drop k)
  | _, _, 0, h => h
  | _, _, _ + 1, .nil => .nil
  | _, _, k + 1, .cons _ r => DatAll.drop k r
section lists
variable {prog : Program} {w : World} {A : Around} {E : Value → Shared → Prop} {s : Shared} {h₀ : Heap} {L l : Addr} {m : Str → Option Value} {news led : Led}
theorem og_slice_upto {α : Type} {f : α → Dat} {xs : List α} {us : List Value} {n : Nat} {k : Int} {t : Tok} {value slice : PySem.Expr} {Q : Value → Shared → Prop} (hm : (l, listOf us.toArray n) ∈ led) (hd : DatAll led us (xs.map f)) (F : Fr h₀ L s.heap m) (N : News h₀ L s.heap news) (hs : ∀ p ∈ led, p ∈ news) (h0 : 0 ≤ k) (hz : xs.length < 2 ^ 24)
    (h : ∀ D h' ws, Fr h₀ L h' m → News h₀ L h' ((D, listOf ws.toArray 0) :: news) → (∀ p ∈ news, p.1 < D) → DatAll led ws ((xs.take k.toNat).map f) → Q (.ref D) { s with heap := h' })
    (hsub : subscripted slice false (.ref l) (.ref s.heap.objs.size) = operate [.ref s.heap.objs.size, .ref l] (getItem (.ref l) (.ref s.heap.objs.size))) (ht : ∀ r, letTemporaryGo value (.ref l) r = pure ()) :
    wpAny (model prog w) A (subscriptTail value slice (.ref l) (.ref s.heap.objs.size)) Q E { s with heap := s.heap.push { cls := .type "slice", data := .fields #[.none, .int k t, .none] } } := by
  have hl : s.heap.IsList l us.toArray := ⟨_, (N _ (hs _ hm)).1, rfl, n, rfl⟩
  have hlen : us.length = xs.length := by rw [hd.length, List.length_map]
  refine kms_slice_lit F N hl .none (.int k t) rfl (fun D h' F' N' l1 => h D h' _ F' N' l1 ?_) hsub ht (by rw [List.size_toArray, hlen, sizeLine_eq]; omega)
  have e : kms_pick us.toArray.toList none (some k) = us.take k.toNat := by
    simp only [kms_pick, kms_lo, kms_hi, List.drop_zero, Nat.sub_zero, if_neg (show ¬ k < 0 by omega)]
    exact kmk_take_min us k.toNat
  rw [e, List.map_take]
  exact DatAll.take _ hd
theorem og_slice_from {α : Type} {f : α → Dat} {xs : List α} {us : List Value} {n : Nat} {k : Int} {t : Tok} {value slice : PySem.Expr} {Q : Value → Shared → Prop} (hm : (l, listOf us.toArray n) ∈ led) (hd : DatAll led us (xs.map f)) (F : Fr h₀ L s.heap m) (N : News h₀ L s.heap news) (hs : ∀ p ∈ led, p ∈ news) (h0 : 0 ≤ k) (hz : xs.length < 2 ^ 24)
    (h : ∀ D h' ws, Fr h₀ L h' m → News h₀ L h' ((D, listOf ws.toArray 0) :: news) → (∀ p ∈ news, p.1 < D) → DatAll led ws ((xs.drop k.toNat).map f) → Q (.ref D) { s with heap := h' })
    (hsub : subscripted slice false (.ref l) (.ref s.heap.objs.size) = operate [.ref s.heap.objs.size, .ref l] (getItem (.ref l) (.ref s.heap.objs.size))) (ht : ∀ r, letTemporaryGo value (.ref l) r = pure ()) :
    wpAny (model prog w) A (subscriptTail value slice (.ref l) (.ref s.heap.objs.size)) Q E { s with heap := s.heap.push { cls := .type "slice", data := .fields #[.int k t, .none, .none] } } := by
  have hl : s.heap.IsList l us.toArray := ⟨_, (N _ (hs _ hm)).1, rfl, n, rfl⟩
  have hlen : us.length = xs.length := by rw [hd.length, List.length_map]
  refine kms_slice_lit F N hl (.int k t) .none rfl (fun D h' F' N' l1 => h D h' _ F' N' l1 ?_) hsub ht (by rw [List.size_toArray, hlen, sizeLine_eq]; omega)
  have e : kms_pick us.toArray.toList (some k) none = us.drop k.toNat := by
    simp only [kms_pick, kms_lo, kms_hi, if_neg (show ¬ k < 0 by omega)]
    have e2 : us.drop (min k.toNat us.length) = us.drop k.toNat := kmk_drop_min us k.toNat
    rw [e2]
    exact List.take_of_length_le (by rw [List.length_drop]; omega)
  rw [e, List.map_drop]
  exact DatAll.drop _ hd
theorem og_list {α : Type} {f : α → Dat} {xs : List α} {us : List Value} {n : Nat} {Q : Value → Shared → Prop} (hm : (l, listOf us.toArray n) ∈ led) (hd : DatAll led us (xs.map f)) (F : Fr h₀ L s.heap m) (N : News h₀ L s.heap news) (hs : ∀ p ∈ led, p ∈ news) (hz : xs.length < 2 ^ 24)
    (h : ∀ D c h', Fr h₀ L h' m → News h₀ L h' ((D, listOf us.toArray c) :: news) → (∀ p ∈ news, p.1 < D) → Q (.ref D) { s with heap := h' }) : wpAny (model prog w) A (call (.type "list") [.ref l]) Q E s := by
  have hl : s.heap.IsList l us.toArray := ⟨_, (N _ (hs _ hm)).1, rfl, n, rfl⟩
  have hlen : us.length = xs.length := by rw [hd.length, List.length_map]
  exact list_copyK F N hl h (by rw [List.size_toArray, hlen, sizeLine_eq]; omega)
end lists
section sets
variable {prog : Program} {w : World} {A : Around} {E : Value → Shared → Prop} {s : Shared} {h₀ : Heap} {L D : Addr} {m : Str → Option Value} {news news' : Led}
theorem og_set {vs vs' : List Value} {n : Nat} {k : Int} {t : Tok} {x : Value} {Q : Unit → Shared → Prop} (F : Fr h₀ L s.heap m) (N : News h₀ L s.heap news) (U : Upd D (listOf vs.toArray n) (listOf vs'.toArray n) news news') (e : vs.set k.toNat x = vs') (h0 : 0 ≤ k) (h1 : k < (vs.length : Int)) (hfit : k < 2 ^ 63)
    (h : ∀ h', Fr h₀ L h' m → News h₀ L h' news' → Q () { s with heap := h' }) : wpAny (model prog w) A (setItem (.ref D) (.int k t) x) Q E s := by
  subst e
  obtain ⟨pre, post, rfl, rfl, a, b⟩ := U.split
  have z := N (D, listOf vs.toArray n) (List.mem_append.mpr (.inr (.head _)))
  have hs : vs.toArray.size = vs.length := List.size_toArray ..
  refine ki_setAt z.1 h0 hfit (by omega) (h _ (F.change (Heap.SameBut.update ..) z.2.1 z.2.2) (ki_turn _ N a b ?_ ?_))
  · show vs.toArray.setIfInBounds k.toNat x = (vs.set k.toNat x).toArray
    apply Array.toList_inj.mp
    simp
  · simp
theorem og_set31 {a b c x : Value} {n : Nat} {t : Tok} {Q : Unit → Shared → Prop} (_hm : (D, listOf #[a, b, c] n) ∈ news) (F : Fr h₀ L s.heap m) (N : News h₀ L s.heap news) (U : Upd D (listOf #[a, b, c] n) (listOf #[a, x, c] n) news news') (h : ∀ h', Fr h₀ L h' m → News h₀ L h' news' → Q () { s with heap := h' }) :
    wpAny (model prog w) A (setItem (.ref D) (.int 1 t) x) Q E s := og_set (vs := [a, b, c]) (vs' := [a, x, c]) F N U rfl (by decide) (by simp) (by decide) h
theorem og_set32 {a b c x : Value} {n : Nat} {t : Tok} {Q : Unit → Shared → Prop} (_hm : (D, listOf #[a, b, c] n) ∈ news) (F : Fr h₀ L s.heap m) (N : News h₀ L s.heap news) (U : Upd D (listOf #[a, b, c] n) (listOf #[a, b, x] n) news news') (h : ∀ h', Fr h₀ L h' m → News h₀ L h' news' → Q () { s with heap := h' }) :
    wpAny (model prog w) A (setItem (.ref D) (.int 2 t) x) Q E s := og_set (vs := [a, b, c]) (vs' := [a, b, x]) F N U rfl (by decide) (by simp) (by decide) h
end sets
section len2
variable {prog : Program} {w : World} {A : Around} {E : Value → Shared → Prop} {s : Shared} {h₀ : Heap} {L l : Addr} {news led : Led}
theorem og_len2 {α : Type} {f : α → Dat} {us : List Value} {xs : List α} {n : Nat} {Q : Value → Shared → Prop} (N : News h₀ L s.heap news) (hm : (l, listOf us.toArray n) ∈ news) (hd : DatAll led us (xs.map f)) (hfit : xs.length < 2 ^ 62)
    (h : Q (.int (xs.length : Int) (s.toks + 1)) { s with toks := s.toks + 1 + 1 }) : wpAny (model prog w) A (call (.builtin "len") [.ref l]) Q E s :=
  kd_len N hm hd (by rw [List.length_map]; omega) (by rw [List.length_map]; exact h)
end len2
section offs
variable {a : Addr} {b : Addr} {o : Obj} {x y : Led}
theorem off_nil : ∀ p ∈ ([] : Led), p.1 ≠ a := fun _ h => nomatch h
theorem offc (h : @Ne Nat b a) (k : ∀ p ∈ x, p.1 ≠ a) : ∀ p ∈ (b, o) :: x, p.1 ≠ a := fun p hp => by
  rcases List.mem_cons.mp hp with rfl | hp
  · exact h
  · exact k p hp
theorem off_app (h : ∀ p ∈ x, p.1 ≠ a) (k : ∀ p ∈ y, p.1 ≠ a) : ∀ p ∈ x ++ y, p.1 ≠ a := fun p hp => (List.mem_append.mp hp).elim (h p) (k p)
theorem off_lt (h : AllLt a x) : ∀ p ∈ x, p.1 ≠ a := fun p hp => Nat.ne_of_lt (allLt_of' h p hp)
end offs
theorem take_snoc' {α : Type} {xs : List α} {k : Nat} {x : α} (h : xs[k]? = some x) : xs.take (k + 1) = xs.take k ++ [x] := by
  rw [List.take_add_one, h]; rfl
theorem datIn_opt (led : Led) {led' : Led} {v : Value} {o : Option Int} (h : DatIn led' v (optD o)) : DatIn led v (optD o) := by
  rcases dat_opt h with ⟨rfl, rfl⟩ | ⟨i, t, rfl, rfl⟩
  · exact .none
  · exact .int i t
theorem mem_of_sub {x y : Led} {p : Addr × Obj} (h : p ∈ x) (s : ∀ p ∈ x, p ∈ y) : p ∈ y := s p h
section comps3
open LCg LCt
variable {prog : Program} {w : World} {A : Around} {E : Value → Shared → Prop} {s : Shared} {h₀ : Heap} {L : Addr} {m : Str → Option Value} {env : Env} {news : Led} {ct elt : PySem.Expr} {x : Str} {scope : Scope} {cl : List (Str × Addr)}
/-- a comprehension with a test over octets -/
noncomputable def BSrc (prog : Program) (w : World) (A : Around) (h₀ : Heap) (L : Addr) (m : Str → Option Value) (env : Env) (ct elt : PySem.Expr) (x : Str) (scope : Scope) (cl : List (Str × Addr)) (Fin : Shared → List Value → Led → Prop) (xv : Value) (s₁ : Shared) : Prop :=
  ∃ b t news, xv = .bytes b t ∧ A.handled = none ∧ Fr h₀ L s₁.heap m ∧ News h₀ L s₁.heap news ∧ b.size ≤ sizeLine ∧
    ∀ s₂ : Shared, (∃ h, s₂ = { s₁ with heap := h }) → CompRestT prog w A h₀ L m env ct elt x scope cl s₂ (fun _ => True) (fun i v => ∃ c u, b[i]? = some c ∧ v = .int (c.toNat : Int) u) (Fin s₂) b.size 0 [] news
theorem ListComp_TB {iter : PySem.Expr} {px : Pos} {pos : Pos} {Q : Value → Shared → Prop} (_F₀ : Fr h₀ L s.heap m)
    (hclos : closureFor scope env = pure cl) (hcell : ∀ y ∈ scope.names, y.2 ≠ .cell) (hkind : scope.kind = .function)
    (hnames : ∀ y ∈ scope.names, y.2 = .local → scope.names.lookup y.1 = some .local) (hx : scope.names.lookup x = some .local)
    (h : wpAny (model prog w) A (eval iter env) (BSrc prog w A h₀ L m env ct elt x scope cl (fun s₂ => FinE h₀ L m s₂ Q)) E s)
    (hs : ∀ x, foldedSetIterable iter env x = pure x := by intro _; rfl) :
    wpAny (model prog w) A (eval (.ListComp elt [⟨.Name x px, iter, [ct], 0⟩] scope pos) env) Q E s := by
  rw [eval_ListComp]
  refine wpAny_comprehension_free (use := none) rfl hs hclos hkind hnames (wpAny_mono h (fun xv s₁ h₁ => ?_) fun _ _ e => e)
  obtain ⟨b, t, news, rfl, hh, F, N, hsz, R⟩ := h₁
  refine KBw.pyIter_bytes ?_
  refine block_T (KBw.walks hh s₁.heap.objs.size b t) hsz (fun i h st => by obtain ⟨o, e, _⟩ := st; exact ⟨o, e⟩) (fun i h h' o nw st e e' _ _ _ => by obtain ⟨o', q, r⟩ := st; rw [e] at q; cases q; exact ⟨o, e', r⟩) hcell hkind hx ⟨_, Heap.get?_push_size _ rfl, rfl, rfl⟩ (fun b hb => ?_)
    (F.keeps fun _ _ e => Heap.get?_push_of_some _ e) (N.grown fun _ _ e => Heap.get?_push_of_some _ e) (Nat.ne_of_lt F.ns.lt) (next_is_new F) (fun p hp => Nat.ne_of_lt (Heap.lt_size (N p hp).1)) trivial (R _ ⟨_, rfl⟩) ?_
  · rw [List.mem_singleton.mp hb]
    show s₁.heap.objs.size < (s₁.heap.push _).objs.size
    rw [Heap.size_push]; exact Nat.lt_succ_self _
  · intro D C h tk m' ys news' F' N' o1 hn hC₀ hD₀ hCL hDL hCD offC fin
    refine ⟨m', hn, fun h'' hs'' => fin D h'' tk (F'.change hs'' hCL hC₀) (fun p hp => ?_) o1⟩
    refine ⟨hs''.extBut _ _ ?_ (N' p hp).1, (N' p hp).2⟩
    rcases List.mem_cons.mp hp with rfl | hp
    · exact Ne.symm hCD
    · exact offC p hp
/-- a comprehension over a text -/
noncomputable def SSrc (prog : Program) (w : World) (A : Around) (h₀ : Heap) (L : Addr) (m : Str → Option Value) (env : Env) (elt : PySem.Expr) (x : Str) (scope : Scope) (cl : List (Str × Addr)) (Fin : Shared → List Value → Led → Prop) (xv : Value) (s₁ : Shared) : Prop :=
  ∃ tx t news, xv = .str tx t ∧ A.handled = none ∧ Fr h₀ L s₁.heap m ∧ News h₀ L s₁.heap news ∧ tx.cps.size ≤ sizeLine ∧ tx.cps.all (· < 128) = true ∧
    ∀ s₂ : Shared, (∃ h, s₂ = { s₁ with heap := h }) → CompRest prog w A h₀ L m env elt x scope cl s₂ (fun _ => True) (SignAt tx) (Fin s₂) tx.cps.size 0 [] news
theorem ListComp_US {iter : PySem.Expr} {px : Pos} {pos : Pos} {Q : Value → Shared → Prop} (_F₀ : Fr h₀ L s.heap m)
    (hclos : closureFor scope env = pure cl) (hcell : ∀ y ∈ scope.names, y.2 ≠ .cell) (hkind : scope.kind = .function)
    (hnames : ∀ y ∈ scope.names, y.2 = .local → scope.names.lookup y.1 = some .local) (hx : scope.names.lookup x = some .local)
    (h : wpAny (model prog w) A (eval iter env) (SSrc prog w A h₀ L m env elt x scope cl (fun s₂ => FinE h₀ L m s₂ Q)) E s)
    (hs : ∀ x, foldedSetIterable iter env x = pure x := by intro _; rfl) :
    wpAny (model prog w) A (eval (.ListComp elt [⟨.Name x px, iter, [], 0⟩] scope pos) env) Q E s := by
  rw [eval_ListComp]
  refine wpAny_comprehension_free (use := none) rfl hs hclos hkind hnames (wpAny_mono h (fun xv s₁ h₁ => ?_) fun _ _ e => e)
  obtain ⟨tx, t, news, rfl, hh, F, N, hsz, ha, R⟩ := h₁
  refine wpAny_pyIter_ascii ha ?_
  refine block_U (Walks.strAscii hh s₁.heap.objs.size tx t) hsz (fun i h st => by obtain ⟨o, e, _⟩ := st; exact ⟨o, e⟩) (fun i h h' o nw st e e' _ _ _ => by obtain ⟨o', q, r⟩ := st; rw [e] at q; cases q; exact ⟨o, e', r⟩) hcell hkind hx ⟨_, Heap.get?_push_size _ rfl, rfl, rfl⟩ (fun b hb => ?_)
    (F.keeps fun _ _ e => Heap.get?_push_of_some _ e) (N.grown fun _ _ e => Heap.get?_push_of_some _ e) (Nat.ne_of_lt F.ns.lt) (next_is_new F) (fun p hp => Nat.ne_of_lt (Heap.lt_size (N p hp).1)) trivial (R _ ⟨_, rfl⟩) ?_
  · rw [List.mem_singleton.mp hb]
    show s₁.heap.objs.size < (s₁.heap.push _).objs.size
    rw [Heap.size_push]; exact Nat.lt_succ_self _
  · intro D C h tk m' ys news' F' N' o1 hn hC₀ hD₀ hCL hDL hCD offC fin
    refine ⟨m', hn, fun h'' hs'' => fin D h'' tk (F'.change hs'' hCL hC₀) (fun p hp => ?_) o1⟩
    refine ⟨hs''.extBut _ _ ?_ (N' p hp).1, (N' p hp).2⟩
    rcases List.mem_cons.mp hp with rfl | hp
    · exact Ne.symm hCD
    · exact offC p hp
/-- the end of an element that is a number, or of one that is left out -/
noncomputable def CInt (h₀ : Heap) (L : Addr) (m : Str → Option Value) (I : Addr) (oI : Obj) (C : Addr) (oC : Obj) (D : Addr) (oD : Obj) (led : Led) (p : Prop) (n : Int) (sh : Shared) (y : Value) (s₂ : Shared) : Prop :=
  p ∧ ∃ h' tk' t, s₂ = { sh with heap := h', toks := tk' } ∧ Fr h₀ L h' m ∧ News h₀ L h' ((I, oI) :: (C, oC) :: (D, oD) :: led) ∧ y = .int n t
noncomputable def CNo (h₀ : Heap) (L : Addr) (m : Str → Option Value) (I : Addr) (oI : Obj) (C : Addr) (oC : Obj) (D : Addr) (oD : Obj) (led : Led) (p : Prop) (sh : Shared) (s₂ : Shared) : Prop :=
  p ∧ ∃ h' tk', s₂ = { sh with heap := h', toks := tk' } ∧ Fr h₀ L h' m ∧ News h₀ L h' ((I, oI) :: (C, oC) :: (D, oD) :: led)
theorem intsAre_snoc {vs : List Value} {ns : List Int} {n : Int} {t : Tok} (h : IntsAre vs ns) : IntsAre (vs ++ [.int n t]) (ns ++ [n]) := IntsAre.append h (.cons n t .nil)
theorem og_bsrc {b : Array UInt8} {tb : Tok} {p : UInt8 → Bool} {Fin : Shared → List Value → Led → Prop} (hh : A.handled = none) (F : Fr h₀ L s.heap m) (N : News h₀ L s.heap news) (hsz : b.size < 2 ^ 24)
    (turn : ∀ (i : Nat) (k : UInt8) t I oI C oC D oD m₂ h tk (E' : Value → Shared → Prop), b[i]? = some k → NsObj oC m₂ → m₂ x = some (.int (k.toNat : Int) t) → Fr h₀ L h m → News h₀ L h ((I, oI) :: (C, oC) :: (D, oD) :: news) → Off3 I C D news → ((@Ne Nat I C) ∧ (@Ne Nat I D) ∧ (@Ne Nat C D)) →
      wpAny (model prog w) A (isTrue ct (compEnvC scope cl C env) (eval ct (compEnvC scope cl C env))) (fun ok s' => if ok = true then
        wpAny (model prog w) A (eval elt (compEnvC scope cl C env)) (CInt h₀ L m I oI C oC D oD news (p k = true) (k.toNat : Int) { s with heap := h, toks := tk }) E' s' else CNo h₀ L m I oI C oC D oD news (p k = false) { s with heap := h, toks := tk } s') E' { s with heap := h, toks := tk })
    (fin : ∀ h1 ys, IntsAre ys ((b.toList.filter p).map fun k => (k.toNat : Int)) → Fin { s with heap := h1 } ys news) : BSrc prog w A h₀ L m env ct elt x scope cl Fin (.bytes b tb) s := by
  refine ⟨b, tb, news, rfl, hh, F, N, by rw [sizeLine_eq]; omega, ?_⟩
  rintro _ ⟨h1, rfl⟩
  have key : ∀ (k i : Nat) (ys : List Value), i + k = b.size → IntsAre ys (((b.toList.take i).filter p).map fun k => (k.toNat : Int)) → CompRestT prog w A h₀ L m env ct elt x scope cl { s with heap := h1 } (fun _ => True) (fun i v => ∃ c u, b[i]? = some c ∧ v = .int (c.toNat : Int) u) (Fin { s with heap := h1 }) k i ys news := by
    intro k
    induction k with
    | zero =>
      intro i ys hi hd
      have e : b.toList.take i = b.toList := List.take_of_length_le (by rw [Array.length_toList]; omega)
      rw [e] at hd
      exact CompRestT.zero (fin h1 ys hd)
    | succ k ih =>
      intro i ys hi hd
      refine CompRestT.succ fun v I oI C oC D m₂ h tk E' hv hC hx F N off ne => ?_
      obtain ⟨c, u, hc, rfl⟩ := hv
      have hT := take_snoc' (xs := b.toList) (k := i) (x := c) (by rw [Array.getElem?_toList]; exact hc)
      refine wpAny_mono (turn i c u I oI C oC D _ m₂ h tk E' hc hC hx F N off ne) (fun ok s' hq => ?_) fun _ _ e => e
      cases ok with
      | true =>
        simp only [if_true] at hq ⊢
        refine wpAny_mono hq (fun y s₂ hq => ?_) fun _ _ e => e
        obtain ⟨hp, h', tk', t', e, F', N', rfl⟩ := hq
        refine ⟨h', tk', news, e, F', N', off, trivial, ih (i + 1) _ (by omega) ?_⟩
        rw [hT, List.filter_append, List.map_append, List.filter_cons_of_pos hp]
        exact intsAre_snoc hd
      | false =>
        simp only [Bool.false_eq_true, if_false] at hq ⊢
        obtain ⟨hp, h', tk', e, F', N'⟩ := hq
        refine ⟨h', tk', news, e, F', N', off, trivial, ih (i + 1) _ (by omega) ?_⟩
        rw [hT, List.filter_append, List.filter_cons_of_neg (by rw [hp]; exact Bool.false_ne_true), List.filter_nil, List.append_nil]
        exact hd
  exact key b.size 0 [] (by omega) .nil
theorem og_ssrc {tx : Str} {tt : Tok} {g : Nat → Int} {Fin : Shared → List Value → Led → Prop} (hh : A.handled = none) (F : Fr h₀ L s.heap m) (N : News h₀ L s.heap news) (hsz : tx.cps.size < 2 ^ 24) (ha : tx.cps.all (· < 128) = true)
    (turn : ∀ (i : Nat) (c : Nat) t I oI C oC D oD m₂ h tk (E' : Value → Shared → Prop), tx.cps[i]? = some c → NsObj oC m₂ → m₂ x = some (.str ⟨#[c]⟩ t) → Fr h₀ L h m → News h₀ L h ((I, oI) :: (C, oC) :: (D, oD) :: news) → Off3 I C D news → ((@Ne Nat I C) ∧ (@Ne Nat I D) ∧ (@Ne Nat C D)) →
      wpAny (model prog w) A (eval elt (compEnvC scope cl C env)) (CInt h₀ L m I oI C oC D oD news True (g c) { s with heap := h, toks := tk }) E' { s with heap := h, toks := tk })
    (fin : ∀ h1 ys, IntsAre ys (tx.cps.toList.map g) → Fin { s with heap := h1 } ys news) : SSrc prog w A h₀ L m env elt x scope cl Fin (.str tx tt) s := by
  refine ⟨tx, tt, news, rfl, hh, F, N, by rw [sizeLine_eq]; omega, ha, ?_⟩
  rintro _ ⟨h1, rfl⟩
  have key : ∀ (k i : Nat) (ys : List Value), i + k = tx.cps.size → IntsAre ys ((tx.cps.toList.take i).map g) → CompRest prog w A h₀ L m env elt x scope cl { s with heap := h1 } (fun _ => True) (SignAt tx) (Fin { s with heap := h1 }) k i ys news := by
    intro k
    induction k with
    | zero =>
      intro i ys hi hd
      have e : tx.cps.toList.take i = tx.cps.toList := List.take_of_length_le (by rw [Array.length_toList]; omega)
      rw [e] at hd
      exact CompRest.zero (fin h1 ys hd)
    | succ k ih =>
      intro i ys hi hd
      refine CompRest.succ fun v I oI C oC D m₂ h tk E' hv hC hx F N off ne => ?_
      obtain ⟨c, u, hc, rfl⟩ := hv
      have hT := take_snoc' (xs := tx.cps.toList) (k := i) (x := c) (by rw [Array.getElem?_toList]; exact hc)
      refine wpAny_mono (turn i c u I oI C oC D _ m₂ h tk E' hc hC hx F N off ne) (fun y s₂ hq => ?_) fun _ _ e => e
      obtain ⟨_, h', tk', t', e, F', N', rfl⟩ := hq
      refine ⟨h', tk', news, e, F', N', off, trivial, ih (i + 1) _ (by omega) ?_⟩
      rw [hT, List.map_append]
      exact intsAre_snoc hd
  exact key tx.cps.size 0 [] (by omega) .nil
end comps3
theorem lines_f2 : True := by
  k_with "eval ListComp" => first | ((k_here; (with_reducible show wpAny _ _ (eval (PySem.Expr.ListComp _ [⟨_, _, [_], _⟩] _ _) _) _ _ _); k_dflt (refine ListComp_TB (by k_asm) (by with_unfolding_all rfl) (by decide) (by rfl) (by decide) (by rfl) ?_))) | fail "no line"
  trivial

noncomputable def splitS (c : UInt8) (s : List (List UInt8) × List UInt8) (k : UInt8) : List (List UInt8) × List UInt8 := if k = c then (s.1 ++ [s.2], []) else (s.1, s.2 ++ [k])
/-- cut at each c, from the left -/
noncomputable def splitF (c : UInt8) (b : List UInt8) : List (List UInt8) := let s := b.foldl (splitS c) ([], []); s.1 ++ [s.2]
theorem splitF_parts (c : UInt8) : ∀ (b : List UInt8) (s : List (List UInt8) × List UInt8) (n : Nat), (∀ p ∈ s.1, p.length ≤ n) → s.2.length ≤ n → s.1.length ≤ n →
    (∀ p ∈ (b.foldl (splitS c) s).1, p.length ≤ n + b.length) ∧ (b.foldl (splitS c) s).2.length ≤ n + b.length ∧ (b.foldl (splitS c) s).1.length ≤ n + b.length
  | [], s, n, h1, h2, h3 => ⟨h1, h2, h3⟩
  | k :: b, s, n, h1, h2, h3 => by
    have e : n + (k :: b).length = (n + 1) + b.length := by rw [List.length_cons]; omega
    rw [e, List.foldl_cons]
    refine splitF_parts c b _ (n + 1) ?_ ?_ ?_
    · intro p hp
      unfold splitS at hp
      split at hp
      · rcases List.mem_append.mp hp with hp | hp
        · exact Nat.le_succ_of_le (h1 p hp)
        · rw [List.mem_singleton.mp hp]; exact Nat.le_succ_of_le h2
      · exact Nat.le_succ_of_le (h1 p hp)
    · unfold splitS
      split
      · exact Nat.zero_le _
      · rw [List.length_append, List.length_singleton]; exact Nat.succ_le_succ h2
    · unfold splitS
      split
      · rw [List.length_append, List.length_singleton]; exact Nat.succ_le_succ h3
      · exact Nat.le_succ_of_le h3
theorem splitF_size {c : UInt8} {b p : List UInt8} (h : p ∈ splitF c b) : p.length ≤ b.length := by
  obtain ⟨h1, h2, h3⟩ := splitF_parts c b ([], []) 0 (fun _ h => nomatch h) (Nat.le_refl _) (Nat.le_refl _)
  rw [Nat.zero_add] at h1 h2
  unfold splitF at h
  rcases List.mem_append.mp h with h | h
  · exact h1 p h
  · rw [List.mem_singleton.mp h]; exact h2
theorem splitF_len (c : UInt8) (b : List UInt8) : (splitF c b).length ≤ b.length + 1 := by
  obtain ⟨h1, h2, h3⟩ := splitF_parts c b ([], []) 0 (fun _ h => nomatch h) (Nat.le_refl _) (Nat.le_refl _)
  rw [Nat.zero_add] at h3
  unfold splitF
  rw [List.length_append, List.length_singleton]
  exact Nat.succ_le_succ h3
noncomputable def ocS (b : Array UInt8) (c : UInt8) (acc : List Nat × Nat) (i : Nat) : List Nat × Nat := if (i ≥ acc.2 && b.extract i (i + (#[c] : Array UInt8).size) == #[c]) = true then (i :: acc.1, i + (#[c] : Array UInt8).size) else acc
noncomputable def bwS (b : Array UInt8) (s : Array (Array UInt8) × Nat) (p : Nat) : Array (Array UInt8) × Nat := (s.1.push (b.extract s.2 p), p + 1)
theorem oc_eq (b : Array UInt8) (c : UInt8) : Builtin.Bytes.occurrences b #[c] 0 b.size = ((List.range b.size).foldl (ocS b c) ([], 0)).1.reverse := by
  unfold Builtin.Bytes.occurrences
  have e : b.size + 1 - (0 + (#[c] : Array UInt8).size) = b.size := by show b.size + 1 - (0 + 1) = b.size; omega
  rw [e]
  simp only [Nat.add_zero, List.map_id']
  rfl
theorem bw_eq (b : Array UInt8) (places : List Nat) : Builtin.Bytes.between b 1 places = (((places.foldl (bwS b) (#[], 0)).1).push (b.extract (places.foldl (bwS b) (#[], 0)).2 b.size)).toList := rfl
theorem ext_one (b : Array UInt8) (c : UInt8) {i : Nat} (h : i < b.size) : (b.extract i (i + (#[c] : Array UInt8).size) == #[c]) = decide (b[i] = c) := by
  have e : b.extract i (i + (#[c] : Array UInt8).size) = #[b[i]] := by
    show b.extract i (i + 1) = #[b[i]]
    apply Array.ext
    · simp; omega
    · intro j h1 h2
      have hj : j = 0 := by simp at h2; omega
      subst hj
      simp
  rw [e]
  by_cases hc : b[i] = c
  · rw [hc, decide_eq_true rfl]; simp
  · rw [decide_eq_false hc]
    simpa using hc
theorem cut_inv (b : Array UInt8) (c : UInt8) : ∀ i, i ≤ b.size →
    ((List.range i).foldl (ocS b c) ([], 0)).2 ≤ i ∧ ((List.range i).foldl (ocS b c) ([], 0)).1.length ≤ i ∧
    (((List.range i).foldl (ocS b c) ([], 0)).1.reverse.foldl (bwS b) (#[], 0)).1.toList = ((b.toList.take i).foldl (splitS c) ([], [])).1.map List.toArray ∧
    (((List.range i).foldl (ocS b c) ([], 0)).1.reverse.foldl (bwS b) (#[], 0)).2 ≤ i ∧
    ((b.toList.take i).foldl (splitS c) ([], [])).2 = (b.toList.take i).drop (((List.range i).foldl (ocS b c) ([], 0)).1.reverse.foldl (bwS b) (#[], 0)).2
  | 0, _ => ⟨Nat.le_refl _, Nat.le_refl _, rfl, Nat.le_refl _, rfl⟩
  | i + 1, hi => by
    obtain ⟨h1, h2, h3, h4, h5⟩ := cut_inv b c i (by omega)
    have hk : b.toList[i]? = some b[i] := by rw [Array.getElem?_toList]; exact Array.getElem?_eq_getElem (by omega)
    rw [take_snoc' hk, List.range_succ, List.foldl_append, List.foldl_append]
    simp only [List.foldl_cons, List.foldl_nil]
    generalize (List.range i).foldl (ocS b c) ([], 0) = a at h1 h2 h3 h4 h5 ⊢
    generalize (b.toList.take i).foldl (splitS c) ([], []) = f at h3 h5 ⊢
    unfold ocS splitS
    rw [ext_one b c (by omega)]
    by_cases hc : b[i] = c
    · rw [if_pos hc, if_pos (by rw [decide_eq_true hc, Bool.and_true]; exact decide_eq_true h1)]
      dsimp only
      rw [List.reverse_cons, List.foldl_append]
      simp only [List.foldl_cons, List.foldl_nil]
      generalize a.1.reverse.foldl (bwS b) (#[], 0) = s at h3 h4 h5 ⊢
      refine ⟨Nat.le_refl _, by rw [List.length_cons]; omega, ?_, Nat.le_refl _, ?_⟩
      · unfold bwS
        dsimp only
        rw [Array.toList_push, h3, List.map_append, h5]
        congr 1
        simp only [List.map_cons, List.map_nil, List.cons.injEq, and_true]
        apply Array.toList_inj.mp
        rw [Array.toList_extract]
        simp [List.extract_eq_take_drop, List.drop_take]
      · unfold bwS
        dsimp only
        rw [List.drop_eq_nil_of_le]
        rw [List.length_append, List.length_take, List.length_singleton]
        omega
    · rw [if_neg hc, if_neg (by rw [decide_eq_false hc, Bool.and_false]; exact Bool.false_ne_true)]
      dsimp only
      refine ⟨by omega, by omega, h3, by omega, ?_⟩
      rw [h5, List.drop_append_of_le_length]
      rw [List.length_take, Array.length_toList]
      omega
theorem cutAt_eq (c : UInt8) (b : Array UInt8) : cutAt c b = (splitF c b.toList).map List.toArray := by
  obtain ⟨h1, h2, h3, h4, h5⟩ := cut_inv b c b.size (Nat.le_refl _)
  have et : b.toList.take b.size = b.toList := by rw [← Array.length_toList]; exact List.take_length
  rw [et] at h3 h5
  have key : Builtin.Bytes.between b 1 ((List.range b.size).foldl (ocS b c) ([], 0)).1.reverse = (splitF c b.toList).map List.toArray := by
    rw [bw_eq, Array.toList_push, h3]
    unfold splitF
    dsimp only
    rw [List.map_append, h5]
    congr 1
    simp only [List.map_cons, List.map_nil, List.cons.injEq, and_true]
    apply Array.toList_inj.mp
    rw [Array.toList_extract, List.extract_eq_take_drop]
    refine List.take_of_length_le ?_
    rw [List.length_drop, Array.length_toList]
    exact Nat.le_refl _
  have ht : ((List.range b.size).foldl (ocS b c) ([], 0)).1.reverse.take (b.size + 1) = ((List.range b.size).foldl (ocS b c) ([], 0)).1.reverse := List.take_of_length_le (by rw [List.length_reverse]; omega)
  unfold cutAt
  rw [oc_eq, ht]
  split
  · rename_i h
    rw [← key, List.isEmpty_iff.mp h]
    unfold Builtin.Bytes.between
    simp
  · exact key
theorem cutAt_size {c : UInt8} {b : Array UInt8} : ∀ p ∈ cutAt c b, p.size ≤ b.size := fun p hp => by
  rw [cutAt_eq] at hp
  obtain ⟨q, hq, rfl⟩ := List.mem_map.mp hp
  have := splitF_size hq
  rw [List.size_toArray, ← Array.length_toList]
  exact this
theorem cutAt_len (c : UInt8) (b : Array UInt8) : (cutAt c b).length ≤ b.size + 1 := by
  rw [cutAt_eq, List.length_map, ← Array.length_toList]
  exact splitF_len c _
theorem dall_opt {led led' : Led} : ∀ {vs : List Value} {xs : List (Option Int)}, DatAll led vs (xs.map optD) → DatAll led' vs (xs.map optD)
  | _, [], h => by cases h; exact .nil
  | _, _ :: _, h => by
    cases h with
    | cons h1 h2 => exact .cons (datIn_opt _ h1) (dall_opt h2)
theorem dat_bytes {led : Led} {v : Value} {b : Array UInt8} (h : DatIn led v (.bytes b)) : ∃ t, v = .bytes b t := by
  cases h; exact ⟨_, rfl⟩
theorem cturn1o {h₀ : Heap} {L : Addr} {m : Str → Option Value} {led : Led} {I C D l : Addr} {oI oC oD o : Obj} {d : Dat} {sh : Shared} {y : Value} {h' : Heap} {tk' : Nat} (F : Fr h₀ L h' m) (N : News h₀ L h' ((l, o) :: (I, oI) :: (C, oC) :: (D, oD) :: led))
    (ho : ∀ p ∈ (I, oI) :: (C, oC) :: (D, oD) :: led, p.1 ≠ l) (hd : DatIn (led ++ [(l, o)]) y d) : CTurn h₀ L m I oI C oC D oD led d sh y { sh with heap := h', toks := tk' } := by
  refine ⟨h', tk', [(l, o)], rfl, F, fun p hp => N p ?_, ⟨⟨(ho _ (.head _)).symm, (ho _ (.tail _ (.head _))).symm, (ho _ (.tail _ (.tail _ (.head _)))).symm⟩, trivial⟩, ?_, hd⟩
  · simp only [List.mem_cons, List.mem_append, List.not_mem_nil, or_false] at hp ⊢
    rcases hp with hp | hp | hp | hp | hp
    · exact .inr (.inl hp)
    · exact .inr (.inr (.inl hp))
    · exact .inr (.inr (.inr (.inl hp)))
    · exact .inr (.inr (.inr (.inr hp)))
    · exact .inl hp
  · intro p hp q hq
    rw [List.mem_singleton.mp hp]
    exact (ho q (.tail _ (.tail _ (.tail _ hq)))).symm
/-- whatever was made by now: the answer's ledger is what stood and the rest of it -/
theorem grown_any {h₀ h : Heap} {L : Addr} {news big : Led} {d : Dat} {r : Value} (N : News h₀ L h big) (hs : ∀ p ∈ news, p ∈ big) (hd : DatIn big r d) : ∃ nw, News h₀ L h nw ∧ Grown news d nw r := by
  refine ⟨news ++ big.filter (fun p => decide (p.1 ∉ news.map (·.1))), fun p hp => ?_, _, rfl, fun p hp q hq => ?_, hd.mono fun p hp => ?_⟩
  · rcases List.mem_append.mp hp with hp | hp
    · exact N p (hs p hp)
    · exact N p (List.mem_filter.mp hp).1
  · have h := of_decide_eq_true (List.mem_filter.mp hp).2
    exact fun e => h (e ▸ List.mem_map_of_mem (f := (·.1)) hq)
  · by_cases hm : p.1 ∈ news.map (·.1)
    · obtain ⟨q, hq, e⟩ := List.mem_map.mp hm
      have e1 := (N p hp).1
      have e2 := (N q (hs q hq)).1
      have e' : q.1 = p.1 := e
      rw [e', e1] at e2
      have e3 : p = q := Prod.ext e'.symm (Option.some.inj e2)
      exact List.mem_append_left _ (e3 ▸ hq)
    · exact List.mem_append_right _ (List.mem_filter.mpr ⟨hp, decide_eq_true hm⟩)
theorem told_back (b : List UInt8) : (b.map (fun k => (k.toNat : Int))).map (fun n => n.toNat.toUInt8) = b := by
  rw [List.map_map]
  refine (List.map_congr_left fun k _ => ?_).trans (List.map_id _)
  show (k.toNat : Int).toNat.toUInt8 = k
  rw [Int.toNat_natCast]
  exact UInt8.ofNat_toNat
section lasts
variable {prog : Program} {w : World} {A : Around} {E : Value → Shared → Prop} {s : Shared} {h₀ : Heap} {L l D : Addr} {m : Str → Option Value} {news news' led : Led}
theorem og_lastrow {value slice : PySem.Expr} {us : List Value} {rs : List (List (Option Int))} {n : Nat} {u : Tok} {Q : Value → Shared → Prop} (hm : (l, listOf us.toArray n) ∈ led) (hd : DatAll led us (rs.map rowD)) (N : News h₀ L s.heap news) (hs : ∀ p ∈ led, p ∈ news)
    (h0 : 0 < rs.length)
    (h : ∀ b vs n' r, rs[rs.length - 1]? = some r → r ∈ rs → (b, listOf vs.toArray n') ∈ led → DatAll led vs (r.map optD) → Q (.ref b) s)
    (hsub : subscripted slice false (.ref l) (.int (-1) u) = operate [.ref l, .int (-1) u] (getItem (.ref l) (.int (-1) u))) :
    wpAny (model prog w) A (subscriptTail value slice (.ref l) (.int (-1) u)) Q E s := by
  have hl : s.heap.IsList l us.toArray := ⟨_, (N _ (hs _ hm)).1, rfl, n, rfl⟩
  have e : us.length = rs.length := by rw [hd.length, List.length_map]
  obtain ⟨v, hv, hD⟩ := hd.get (k := rs.length - 1) (by rw [List.length_map]; omega)
  have hr : rs[rs.length - 1]? = some rs[rs.length - 1] := List.getElem?_eq_getElem (by omega)
  obtain ⟨b, vs, n', rfl, hb, hvs⟩ := dat_list (show DatIn led v (rowD rs[rs.length - 1]) by simpa using hD)
  refine tail_any hl.typeIs slot_list_getitem.lookup (wpAny_getItem_list_neg (x := .ref b) hl (by decide) (by rw [List.size_toArray]; omega) (by decide) ?_ (h b vs n' _ hr (List.getElem_mem _) hb hvs)) hsub
  have ei : ((-1 : Int) + (us.toArray.size : Int)).toNat = rs.length - 1 := by rw [List.size_toArray]; omega
  rw [ei]
  simpa using hv
theorem og_pop {us p : List Value} {y : Value} {n : Nat} {Q : Value → Shared → Prop} (e : us = p ++ [y]) (F : Fr h₀ L s.heap m) (N : News h₀ L s.heap news) (U : Upd D (listOf us.toArray n) (listOf p.toArray (n + 1)) news news') (hz : us.length < 2 ^ 24)
    (h : ∀ h', Fr h₀ L h' m → News h₀ L h' news' → Q y { s with heap := h' }) : wpAny (model prog w) A (call (.builtin "list.pop") [.ref D]) Q E s := by
  subst e
  exact kl_pop F N (kpa_last y p) U (by show (p ++ [y]).length ≤ _; rw [sizeLine_eq]; omega) h
end lasts
theorem lines_f3 : True := by
  k_with "call builtin:bytes.split" => first | ((k_here; (with_reducible show wpAny _ _ (call (Value.builtin "bytes.split") [Value.bytes _ _, Value.bytes _ _]) _ _ _); k_dflt (refine' og_split ?ogF ?ogN ?ogz ?ogl ?_; (case ogF => k_asm); (case ogN => k_asm); (case ogz => (intro qqp qqhp; exact Nat.le_trans (cutAt_size qqp qqhp) (by first | omega | (simp only [List.size_toArray, List.length_map]; omega)))); (case ogl => exact Nat.le_trans (cutAt_len _ _) (by first | omega | (simp only [List.size_toArray, List.length_map]; omega))); k_whole); intro qqD' qqh' qqtk' qqws' qqF' qqN' qql1 qqhd'; (try k_lt qql1); (try k_sweep))) | fail "no line"
  trivial

section enumB
open LCg
variable {prog : Program} {w : World} {A : Around} {E : Value → Shared → Prop} {s : Shared} {b : Array UInt8} {t : Tok}
theorem nextB_item {it : Addr} {i : Nat} {c : UInt8} {Q : Value → Shared → Prop} (hit : KBw.IsBytesIter s.heap it b t i) (hx : b[i]? = some c)
    (hQ : ∀ h', KBw.IsBytesIter h' it b t (i + 1) → Heap.SameBut it s.heap h' → Q (.int (c.toNat : Int) s.toks) { s with heap := h', toks := s.toks + 1 }) : wpAny (model prog w) A (Builtin.SmallTypes.nextOf (.ref it)) Q E s := by
  obtain ⟨o, ho, hc, hd⟩ := id hit
  unfold Builtin.SmallTypes.nextOf
  refine wpAny_bind (wpAny_callSpecial?_slot (name := PySem.Str.ofString "__next__") (KBw.iter_typeIs hit) KBw.slot_next
    (wpAny_call_entry KBw.slot_next (KBw.iter_typeIs hit) KBw.entry_next ?_ (KBw.args_next _)))
  show wpAny _ _ (field (.ref it) 0 >>= _) _ _ s
  refine wpAny_bind (wpAny_field ho hd (x := .bytes b t) rfl ?_)
  show wpAny _ _ (if (Value.bytes b t == Value.none) = true then _ else _) _ _ s
  rw [if_neg (show ¬ ((Value.bytes b t == Value.none) = true) from Bool.false_ne_true)]
  show wpAny _ _ (field (.ref it) 1 >>= _) _ _ s
  refine wpAny_bind (wpAny_field ho hd (x := .int i 0) rfl ?_)
  refine wpAny_bind (wpAny_of_eq (a := b) rfl ?_)
  simp only [Int.toNat_natCast, hx]
  refine wpAny_bind (wpAny_setField ho hd (by simp) (wpAny_bind (wpAny_mkInt (wpAny_pure ⟨_, rfl, wpAny_pure (hQ _ ?_ (Heap.SameBut.update ..))⟩))))
  exact ⟨_, Heap.get?_update_self _ ho (Obj.isFreed_of_fields (Obj.data_mapFields hd _)), (Obj.cls_mapFields ..).trans hc, by
    rw [Obj.data_mapFields hd]; simp [rawInt]⟩
theorem nextB_end {it : Addr} {i : Nat} {Q : Value → Shared → Prop} (hh : A.handled = none) (hit : KBw.IsBytesIter s.heap it b t i) (hx : b[i]? = none)
    (hE : ∀ h' e, Heap.ExtBut it s.heap h' → (∃ o, h'.get? e = some o ∧ o.cls = .type "StopIteration") → E (.ref e) { s with heap := h' }) : wpAny (model prog w) A (Builtin.SmallTypes.nextOf (.ref it)) Q E s := by
  obtain ⟨o, ho, hc, hd⟩ := id hit
  unfold Builtin.SmallTypes.nextOf
  refine wpAny_bind (wpAny_callSpecial?_slot (name := PySem.Str.ofString "__next__") (KBw.iter_typeIs hit) KBw.slot_next
    (wpAny_call_entry KBw.slot_next (KBw.iter_typeIs hit) KBw.entry_next ?_ (KBw.args_next _)))
  show wpAny _ _ (field (.ref it) 0 >>= _) _ _ s
  refine wpAny_bind (wpAny_field ho hd (x := .bytes b t) rfl ?_)
  show wpAny _ _ (if (Value.bytes b t == Value.none) = true then _ else _) _ _ s
  rw [if_neg (show ¬ ((Value.bytes b t == Value.none) = true) from Bool.false_ne_true)]
  show wpAny _ _ (field (.ref it) 1 >>= _) _ _ s
  refine wpAny_bind (wpAny_field ho hd (x := .int i 0) rfl ?_)
  refine wpAny_bind (wpAny_of_eq (a := b) rfl ?_)
  simp only [Int.toNat_natCast, hx]
  refine wpAny_bind (wpAny_rule (wpAny_bind (wpAny_setField ho hd (by simp) ?_)))
  show wpAny _ _ (newExc (.type "StopIteration") [] >>= _) _ _ _
  refine wpAny_bind ?_
  simp only [newExc, newTuple]
  refine wpAny_bind (wpAny_newObj_type ?_ (by size_fits))
  refine wpAny_bind (m := firstArgMember _ _) (wpAny_of_eq (a := Value.none) (by first | rfl | (simp only [firstArgMember]; rfl)) ?_)
  refine wpAny_newObj_type ?_ (by size_fits)
  simp only [raiseNew]
  refine wpAny_bind (wpAny_handled ?_)
  first | rw [show A.in1.handled = none from hh] | rw [hh]
  refine wpAny_bind (wpAny_pure (wpAny_throw ?_))
  exact hE _ _ (((Heap.SameBut.update ..).extBut.push _).push _) ⟨_, Heap.get?_push_size _ rfl, rfl⟩
theorem drawsB (hh : A.handled = none) (it : Addr) (b : Array UInt8) (t : Tok) : Draws prog w A it [it] b.size (fun i v => ∃ c u, b[i]? = some c ∧ v = .int (c.toNat : Int) u) (fun i h => KBw.IsBytesIter h it b t i) where
  live := fun _ _ st => let ⟨o, ho, _⟩ := st; ⟨o, ho⟩
  frame := fun _ _ _ st hk => let ⟨o, ho, r⟩ := st; ⟨o, hk it (by simp) o ho, r⟩
  item := fun i s Q E hi st hQ => by
    refine nextB_item st (c := b[i]) (by simp [hi]) fun h' hit' hs' => ?_
    exact hQ _ h' (s.toks + 1) ⟨_, _, by simp [hi], rfl⟩ hit' hs'
  done := fun s Q E st hE => nextB_end hh st (by simp) hE
end enumB
set_option maxHeartbeats 8000000 in
theorem meets_enumerate_newB (b : Array UInt8) (t : Tok) :
    Meets (Builtin.«enumerate.__new__» ⟨[.type "enumerate", .bytes b t], []⟩) (fun _ R s =>
      R (.ok (.ret (.ref (s.heap.push { cls := .type "bytes_iterator", data := .fields #[.bytes b t, .int 0 0] }).objs.size)))
        { s with heap := (s.heap.push { cls := .type "bytes_iterator", data := .fields #[.bytes b t, .int 0 0] }).push { cls := .type "enumerate", data := .fields #[.none, .bool false, .ref s.heap.objs.size, rawInt 0, .none, .none] } }) :=
  .of_wp fun prog w A R s h => by
    obtain ⟨hp, g, d, tk, os⟩ := s
    have hsub := sub_enumerate
    wp_walk
    refine wpAny_stack_any fun st => wpAny_pure ?_
    split
    · rename_i c _ _ _ _ _
      cases (c == Value.type "enumerate")
      · wp_walk using KBw.pyIter_bytes
        exact ⟨_, rfl, h⟩
      · wp_walk using KBw.pyIter_bytes
        exact ⟨_, rfl, h⟩
    · wp_walk using KBw.pyIter_bytes
      exact ⟨_, rfl, h⟩
section enumB2
open LCg
variable {prog : Program} {w : World} {A : Around} {E : Value → Shared → Prop} {s : Shared} {h₀ : Heap} {env : Env}
theorem call_enumerate_bytes {b : Array UInt8} {t : Tok} {Q : Value → Shared → Prop}
    (h : ∀ h', IsEnum h' (s.heap.objs.size + 1) s.heap.objs.size 0 .none → KBw.IsBytesIter h' s.heap.objs.size b t 0 → h'.objs.size = s.heap.objs.size + 2 →
      (∀ b o, s.heap.get? b = some o → h'.get? b = some o) → Q (.ref (s.heap.objs.size + 1)) { s with heap := h' }) :
    wpAny (model prog w) A (call (.type "enumerate") [.bytes b t]) Q E s := by
  refine callType_new PySem.F.called_enumerate (by decide) (PySem.F.typeCall_enumerate_1 _) (PySem.F.newCall_enumerate_1 _) (fun obj => PySem.F.args_object_init_2 obj _) PySem.F.entry_enumerate_new
    (meets_enumerate_newB b t) ?_
  have hz : (s.heap.push { cls := .type "bytes_iterator", data := .fields #[.bytes b t, .int 0 0] }).objs.size = s.heap.objs.size + 1 := Heap.size_push ..
  show _ ∧ _
  rw [hz]
  have he : IsEnum ((s.heap.push { cls := .type "bytes_iterator", data := .fields #[.bytes b t, .int 0 0] }).push
      { cls := .type "enumerate", data := .fields #[.none, .bool false, .ref s.heap.objs.size, rawInt 0, .none, .none] }) (s.heap.objs.size + 1) s.heap.objs.size 0 .none := by
    have := Heap.get?_push_size (s.heap.push { cls := .type "bytes_iterator", data := .fields #[.bytes b t, .int 0 0] })
      (o := { cls := .type "enumerate", data := .fields #[.none, .bool false, .ref s.heap.objs.size, rawInt 0, .none, .none] }) rfl
    rw [hz] at this; exact this
  refine ⟨⟨_, he, rfl⟩, h _ he ⟨_, Heap.get?_push_of_some _ (Heap.get?_push_size _ rfl), rfl, rfl⟩ (by rw [Heap.size_push, hz]) fun b o y => Heap.get?_push_of_some _ (Heap.get?_push_of_some _ y)⟩
noncomputable def itemsB : Nat → List UInt8 → List Itm
  | _, [] => []
  | a, c :: r => .pairF (fun t => .int (a : Int) t) (.int (c.toNat : Int)) :: itemsB (a + 1) r
theorem itemsB_len : ∀ (l : List UInt8) (a : Nat), (itemsB a l).length = l.length
  | [], _ => rfl
  | _ :: r, a => congrArg (· + 1) (itemsB_len r (a + 1))
theorem itemsB_get : ∀ (l : List UInt8) (a i : Nat) {c : UInt8}, l[i]? = some c → (itemsB a l)[i]? = some (.pairF (fun t => .int ((a + i : Nat) : Int) t) (.int (c.toNat : Int)))
  | [], _, _, _, h => by simp at h
  | x :: r, a, 0, c, h => by
    have e : x = c := by simpa using h
    subst e; rfl
  | x :: r, a, i + 1, c, h => by
    have g := itemsB_get r (a + 1) i (c := c) (by simpa using h)
    have e : a + 1 + i = a + (i + 1) := by omega
    rw [e] at g
    simpa [itemsB] using g
theorem og_enum {σ : Type} {b : Array UInt8} {tb : Tok} {elts : List PySem.Expr} {k : Nat} {pos : Pos} {body : List Stmt} {Q : Flow → Shared → Prop} {m₀ : Str → Option Value} {x : Str} (Lg : σ → Led) (ps : σ → List (Str × Value)) (stored : List Str) (J : Nat → σ → Prop) (c₀ : σ)
    (hh : A.handled = none) (hxs : stored.contains x = true) (F : Fr h₀ env.locals s.heap m₀) (N : News h₀ env.locals s.heap (Lg c₀)) (hk : ∀ p ∈ ps c₀, m₀ p.1 = some p.2) (hj : J 0 c₀)
    (turn : ∀ (i : Nat) (k8 : UInt8) T ti tc c (u : Str → Option Value) h tk own, b[i]? = some k8 → IsTup h T #[.int (i : Int) ti, .int (k8.toNat : Int) tc] → J i c → OwnOff own ((Lg c).map (·.1)) →
      Fr h₀ env.locals h (kstB (fun z => if stored.contains z then u z else m₀ z) (ps c)) → News h₀ env.locals h (Lg c ++ own) →
      wpAny (model prog w) A (assign (.Tuple elts k pos) env (.ref T)) (fun _ s₂ => wpAny (model prog w) A (execs body env) (LPost h₀ env.locals Lg ps stored x m₀ (J (i + 1)) own { s with heap := h, toks := tk } Q) E s₂) E { s with heap := h, toks := tk })
    (done : ∀ c (u : Str → Option Value) h tk, J b.size c → Fr h₀ env.locals h (kstB (fun z => if stored.contains z then u z else m₀ z) (ps c)) → News h₀ env.locals h (Lg c) → Q .next { s with heap := h, toks := tk }) :
    wpAny (model prog w) A (call (.type "enumerate") [.bytes b tb]) (fun xv s₁ => wpAny (model prog w) A (pyIter xv) (fun it s₂ => TurnsAt prog w A h₀ env (.Tuple elts k pos) body Q E it s₂) E s₁) E s := by
  have hLs : env.locals < s.heap.objs.size := F.ns.lt
  have hN0 : ∀ p ∈ Lg c₀, p.1 < s.heap.objs.size := fun p hp => Heap.lt_size (N p hp).1
  refine call_enumerate_bytes fun h' hE hI hsz hkk => ?_
  refine wpAny_pyIter_enum hE ?_
  have rest : ∀ (l : List UInt8) (i : Nat) (m : Str → Option Value) (nx : Led) (c : σ), (∀ j, l[j]? = b[i + j]?) → i + l.length = b.size → nx = Lg c → J i c → (∀ p ∈ ps c, m p.1 = some p.2) → (∀ z, (∀ p ∈ ps c, z ≠ p.1) → stored.contains z = false → m z = m₀ z) →
      (∀ p ∈ Lg c, p.1 ≠ s.heap.objs.size + 1 ∧ p.1 ≠ s.heap.objs.size) →
      ItemsRest prog w A E h₀ env (.Tuple elts k pos) body Q s [(s.heap.objs.size + 1, "enumerate"), (s.heap.objs.size, "bytes_iterator")] [] (itemsB i l) m nx := by
    intro l
    induction l with
    | nil =>
      rintro i m nx c hl hlen rfl hJ h1 h2 _
      refine ItemsRest.zero fun h tk F1 N1 => done c m h tk ?_ (ksw_fr h1 h2 F1) N1
      have e : i = b.size := by simpa using hlen
      exact e ▸ hJ
    | cons a r ih =>
      rintro i m nx c hl hlen rfl hJ h1 h2 ho v h tk hv F1
      refine AllObj.cons fun o1 c1 => AllObj.cons fun o2 c2 => AllObj.nil fun N1 => ?_
      obtain ⟨T, ti, xv, rfl, hfl, hT⟩ := hv
      have hb : b[i]? = some a := by have := hl 0; simpa using this.symm
      obtain ⟨tc, rfl⟩ : ∃ tc, xv = .int (a.toNat : Int) tc := by
        have hfl' := hfl h
        cases hfl'; exact ⟨_, rfl⟩
      have hoff : OwnOff [(s.heap.objs.size + 1, o1), (s.heap.objs.size, o2)] ((Lg c).map (·.1)) := by
        intro p hp q hq
        obtain ⟨y, hy, rfl⟩ := List.mem_map.mp hq
        rcases List.mem_cons.mp hp with rfl | hp
        · exact (ho y hy).1.symm
        · rw [List.mem_singleton.mp hp]; exact (ho y hy).2.symm
      refine wpAny_mono (turn i a T ti tc c m h tk [(s.heap.objs.size + 1, o1), (s.heap.objs.size, o2)] hb hT hJ hoff (ksw_fr h1 h2 F1) (fun p hp => N1 p (by
        rcases List.mem_append.mp hp with hp | hp
        · exact List.mem_append_right _ hp
        · exact List.mem_append_left _ hp))) (fun _ s₂ hq => wpAny_mono hq (fun f s₃ hq => ?_) fun _ _ e => e) fun _ _ e => e
      have fin : LEnd h₀ env.locals Lg ps stored x m₀ (J (i + 1)) [(s.heap.objs.size + 1, o1), (s.heap.objs.size, o2)] { s with heap := h, toks := tk } s₃ →
          UnrEndW h₀ env.locals { s with heap := h, toks := tk } [(s.heap.objs.size + 1, o1), (s.heap.objs.size, o2)] (fun m' n' => SubL [] n' ∧ ItemsRest prog w A E h₀ env (.Tuple elts k pos) body Q s [(s.heap.objs.size + 1, "enumerate"), (s.heap.objs.size, "bytes_iterator")] [] (itemsB (i + 1) r) m' n') s₃ := by
        rintro ⟨c', h5, tk5, m5, n5, rfl, F5, N5, hs5, ho5, hk5, hr5, hj5⟩
        refine ⟨h5, tk5, m5, Lg c', rfl, F5, fun p hp => N5 p (hs5 p (by
          rcases List.mem_append.mp hp with hp | hp
          · exact List.mem_append_right _ hp
          · exact List.mem_append_left _ hp)), fun p hp q hq => (ho5 q hq p.1 (List.mem_map_of_mem hp)).symm, trivial, ?_⟩
        refine ih (i + 1) m5 _ c' (fun j => ?_) ?_ rfl hj5 hk5 (fun z hz hs => hr5 z (fun e => by rw [e, hxs] at hs; cases hs) hz hs) (fun p hp => ⟨fun e => ho5 _ (.head _) p.1 (List.mem_map_of_mem hp) e.symm, fun e => ho5 _ (.tail _ (.head _)) p.1 (List.mem_map_of_mem hp) e.symm⟩)
        · have := hl (j + 1)
          rw [List.getElem?_cons_succ] at this
          rw [this, show i + (j + 1) = i + 1 + j by omega]
        · rw [List.length_cons] at hlen; omega
      cases f with
      | ret v => exact hq
      | brk => exact hq
      | next => exact fin hq
      | cont => exact fin hq
  refine ktu_core (tk0 := s.toks) (keep := []) (ws := [(s.heap.objs.size + 1, "enumerate"), (s.heap.objs.size, "bytes_iterator")]) (xs := itemsB 0 b.toList) (m₀ := m₀) (news := Lg c₀)
    (KTurns.ofWalksU (WalksT.enumerateD (drawsB (A := A.in1) hh s.heap.objs.size b tb) (s.heap.objs.size + 1) (Nat.succ_ne_self _) (by simp) (by simp)).toU) (by rw [itemsB_len, Array.length_toList]) ?_ ?_ ?_ ?_ ?_ ?_ ?_ ?_ (F.keeps hkk) (N.grown hkk) trivial
    (rest b.toList 0 m₀ _ c₀ (fun j => by rw [Nat.zero_add, Array.getElem?_toList]) (by rw [Nat.zero_add, Array.length_toList]) rfl hj hk (fun _ _ _ => rfl) fun p hp => ⟨Nat.ne_of_lt (Nat.lt_succ_of_lt (hN0 p hp)), Nat.ne_of_lt (hN0 p hp)⟩)
  · rintro i v h ⟨T, vals, rfl, ⟨t, x, ⟨c, u, hc, rfl⟩, rfl⟩, hT⟩
    refine ⟨_, itemsB_get b.toList 0 i (c := c) (by rw [Array.getElem?_toList]; exact hc), T, t, .int (c.toNat : Int) u, rfl, PyProof.V.Flat.int _ _, ?_⟩
    show IsTup h T #[.int ((0 + i : Nat) : Int) t, .int (c.toNat : Int) u]
    rw [Nat.zero_add]
    exact hT
  · rintro i h ⟨⟨old, he⟩, ⟨oi, hoi, hic, _⟩⟩
    have he' : ∃ oe : Obj, h.get? (s.heap.objs.size + 1) = some oe ∧ oe.cls = .type "enumerate" := ⟨_, he, rfl⟩
    obtain ⟨oe, h1, h2⟩ := he'
    refine ⟨[(s.heap.objs.size + 1, oe), (s.heap.objs.size, oi)], ⟨⟨rfl, h2⟩, ⟨rfl, hic⟩, trivial⟩, fun p hp => ?_⟩
    rcases List.mem_cons.mp hp with rfl | hp
    · exact h1
    · rw [List.mem_singleton.mp hp]; exact hoi
  · intro b hb
    have hb' : b = s.heap.objs.size + 1 ∨ b = s.heap.objs.size := by simpa using hb
    rcases hb' with rfl | rfl
    · exact ⟨by simp, ktu_new F (Nat.le_add_right _ _)⟩
    · exact ⟨by simp, ktu_new F (Nat.le_refl _)⟩
  · intro b hb
    simpa using hb
  · intro b hb
    have hb' : b = s.heap.objs.size + 1 ∨ b = s.heap.objs.size := by simpa using hb
    exact .inl (by simpa using hb')
  · intro hI'
    have hb' : env.locals = s.heap.objs.size + 1 ∨ env.locals = s.heap.objs.size := by simpa using hI'
    rcases hb' with e | e
    · exact ktu_ne 1 hLs e
    · exact Nat.ne_of_lt hLs e
  · intro p hp hI'
    have hb' : p.1 = s.heap.objs.size + 1 ∨ p.1 = s.heap.objs.size := by simpa using hI'
    rcases hb' with e | e
    · exact ktu_ne 1 (hN0 p hp) e
    · exact Nat.ne_of_lt (hN0 p hp) e
  · exact ⟨⟨_, hE⟩, hI⟩
end enumB2
theorem clamp_con (news : Led) (v lo hi : Int) (t1 t2 t3 : Tok) : Con 1 21 news [.int v t1, .int lo t2, .int hi t3] (fun news' r => news' = news ∧ ∃ t, r = .int (max lo (min v hi)) t) := by
  unfold Con
  w_top off
  k_fill
  intro w mean mg mb dp un gd cn cs a ccd cl outer A₀ base h₀ L m s Q E B F X N T hk hd hu hret
  refine wpAny_call ?_
  k_dflt (k_extra "OG enter")
  k_steps
  all_goals exact hret _ _ _ _ (by assumption) (by assumption) ⟨rfl, (if (if hi < v then hi else v) > lo then if hi < v then t3 else t1 else t2), congrArg (fun x => Value.int x _) (by omega)⟩
theorem lines_f4 : True := by
  k_with "call ref" => first | ((k_here; (with_reducible show wpAny _ _ (call (Value.ref 21) _ _) _ _ _); k_dflt (refine' con_use (clamp_con _ _ _ _ _ _ _) ?ogB ?ogF ?ogX ?ogN ?ogT ?ogkk ?ogd ?ogu ?_; (case ogN => k_asm); k_extra "OG use"; k_whole); intro qqr9 qqnw9 qqh9 qqtk9 qqF9 qqN9 qqP9; obtain ⟨qqe9, qqt9, qqe9'⟩ := qqP9; (replace qqe9 := qqe9.symm); subst qqe9; subst qqe9'; (try dsimp only); (try k_fold))) | fail "no line"
  trivial

noncomputable def plainOf (rs : List (List (Option Int))) (i : Int) (d : Int) : Int := ((rs[i.toNat]?.getD [])[0]?.join).getD d
theorem plain_of_con (news : Led) (v : Value) (rs : List (List (Option Int))) (i d : Int) (t1 t2 : Tok) (hD : DatIn news v (rowsD rs)) (h0 : 0 ≤ i) (hs : Small rs) : Con 1 115 news [v, .int i t1, .int d t2] (fun news' r => news' = news ∧ ∃ t, r = .int (plainOf rs i d) t) := by
  obtain ⟨pa, pvs, pn, rfl, pm, pd⟩ := dat_list hD
  have hlen := hs.1
  clear hD
  unfold Con
  w_top off
  k_fill
  intro w mean mg mb dp un gd cn cs a ccd cl outer A₀ base h₀ L m s Q E B F X N T hk hd hu hret
  refine wpAny_call ?_
  k_dflt (k_extra "OG enter")
  k_steps
  all_goals (refine hret _ news _ _ (by k_asm) (news_sub (by k_asm) (by k_extra "OG sub")) ⟨rfl, _, congrArg (fun z => Value.int z _) ?_⟩)
  · (have e9 : rs[i.toNat]? = none := List.getElem?_eq_none (by omega)); simp [plainOf, e9]
  all_goals (clear qk ek; simp_all [plainOf])
theorem lines_f5 : True := by
  k_with "call ref" => first | ((k_here; (with_reducible show wpAny _ _ (call (Value.ref 115) _ _) _ _ _); k_dflt (refine' con_use (plain_of_con _ _ _ _ _ _ _ ?oghD ?ogh0 ?oghs) ?ogB ?ogF ?ogX ?ogN ?ogT ?ogkk ?ogd ?ogu ?_; (case ogN => k_asm); (case oghD => k_extra "OG dat"); (case oghs => assumption); (case ogh0 => omega); k_extra "OG use"; k_whole); intro qqr9 qqnw9 qqh9 qqtk9 qqF9 qqN9 qqP9; obtain ⟨qqe9, qqt9, qqe9'⟩ := qqP9; (replace qqe9 := qqe9.symm); subst qqe9; subst qqe9'; (try dsimp only); (try k_fold))) | fail "no line"
  trivial

noncomputable def valueOf (rs : List (List (Option Int))) (i d : Int) : Int := if plainOf rs i 0 = 0 then d else plainOf rs i 0
theorem value_of_con (news : Led) (v : Value) (rs : List (List (Option Int))) (i d : Int) (t1 t2 : Tok) (hD : DatIn news v (rowsD rs)) (h0 : 0 ≤ i) (hs : Small rs) : Con 2 122 news [v, .int i t1, .int d t2] (fun news' r => news' = news ∧ ∃ t, r = .int (valueOf rs i d) t) := by
  unfold Con
  w_top off
  k_fill
  intro w mean mg mb dp un gd cn cs a ccd cl outer A₀ base h₀ L m s Q E B F X N T hk hd hu hret
  refine wpAny_call ?_
  k_dflt (k_extra "OG enter")
  k_steps
  all_goals (refine hret _ news _ _ (by k_asm) (news_sub (by k_asm) (by k_extra "OG sub")) ⟨rfl, _, congrArg (fun z => Value.int z _) ?_⟩)
  all_goals (clear qk ek; simp_all [valueOf])
theorem lines_f6 : True := by
  k_with "call ref" => first | ((k_here; (with_reducible show wpAny _ _ (call (Value.ref 122) _ _) _ _ _); k_dflt (refine' con_use (value_of_con _ _ _ _ _ _ _ ?oghD ?ogh0 ?oghs) ?ogB ?ogF ?ogX ?ogN ?ogT ?ogkk ?ogd ?ogu ?_; (case ogN => k_asm); (case oghD => k_extra "OG dat"); (case oghs => assumption); (case ogh0 => omega); k_extra "OG use"; k_whole); intro qqr9 qqnw9 qqh9 qqtk9 qqF9 qqN9 qqP9; obtain ⟨qqe9, qqt9, qqe9'⟩ := qqP9; (replace qqe9 := qqe9.symm); subst qqe9; subst qqe9'; (try dsimp only); (try k_fold))) | fail "no line"
  trivial

theorem value_within_con (news : Led) (v : Value) (rs : List (List (Option Int))) (i d lo hi : Int) (t1 t2 t3 t4 : Tok) (hD : DatIn news v (rowsD rs)) (h0 : 0 ≤ i) (hs : Small rs) : Con 3 129 news [v, .int i t1, .int d t2, .int lo t3, .int hi t4] (fun news' r => news' = news ∧ ∃ t, r = .int (max lo (min (valueOf rs i d) hi)) t) := by
  unfold Con
  w_top off
  k_fill
  intro w mean mg mb dp un gd cn cs a ccd cl outer A₀ base h₀ L m s Q E B F X N T hk hd hu hret
  refine wpAny_call ?_
  k_dflt (k_extra "OG enter")
  k_steps
  all_goals exact hret _ news _ _ (by k_asm) (news_sub (by k_asm) (by k_extra "OG sub")) ⟨rfl, _, rfl⟩
theorem lines_f7 : True := by
  k_with "call ref" => first | ((k_here; (with_reducible show wpAny _ _ (call (Value.ref 129) _ _) _ _ _); k_dflt (refine' con_use (value_within_con _ _ _ _ _ _ _ _ _ _ _ ?oghD ?ogh0 ?oghs) ?ogB ?ogF ?ogX ?ogN ?ogT ?ogkk ?ogd ?ogu ?_; (case ogN => k_asm); (case oghD => k_extra "OG dat"); (case oghs => assumption); (case ogh0 => omega); k_extra "OG use"; k_whole); intro qqr9 qqnw9 qqh9 qqtk9 qqF9 qqN9 qqP9; obtain ⟨qqe9, qqt9, qqe9'⟩ := qqP9; (replace qqe9 := qqe9.symm); subst qqe9; subst qqe9'; (try dsimp only); (try k_fold))) | fail "no line"
  trivial

noncomputable def partOf (rs : List (List (Option Int))) (i n d : Int) : Int := ((rs[i.toNat]?.getD [])[n.toNat]?.join).getD d
theorem partOf_big {rs : List (List (Option Int))} {r : List (Option Int)} {i n d : Int} (hr : rs[i.toNat]? = some r) (hl : (r.length : Int) ≤ n) : partOf rs i n d = d := by
  have e9 : r[n.toNat]? = none := List.getElem?_eq_none (by omega)
  simp [partOf, hr, e9]
theorem part_of_con (news : Led) (v : Value) (rs : List (List (Option Int))) (i n d : Int) (t1 t2 t3 : Tok) (hD : DatIn news v (rowsD rs)) (h0 : 0 ≤ i) (h1 : 0 ≤ n) (hs : Small rs) : Con 1 136 news [v, .int i t1, .int n t2, .int d t3] (fun news' r => news' = news ∧ ∃ t, r = .int (partOf rs i n d) t) := by
  obtain ⟨pa, pvs, pn, rfl, pm, pd⟩ := dat_list hD
  have hlen := hs.1
  clear hD
  unfold Con
  w_top off
  k_fill
  intro w mean mg mb dp un gd cn cs a ccd cl outer A₀ base h₀ L m s Q E B F X N T hk hd hu hret
  refine wpAny_call ?_
  k_dflt (k_extra "OG enter")
  k_steps
  all_goals (refine hret _ news _ _ (by k_asm) (news_sub (by k_asm) (by k_extra "OG sub")) ⟨rfl, _, congrArg (fun z => Value.int z _) ?_⟩)
  · (have e9 : rs[i.toNat]? = none := List.getElem?_eq_none (by omega)); simp [partOf, e9]
  · exact (partOf_big (by assumption) (by assumption)).symm
  all_goals (clear qk ek; simp_all [partOf])
theorem lines_f8 : True := by
  k_with "call ref" => first | ((k_here; (with_reducible show wpAny _ _ (call (Value.ref 136) _ _) _ _ _); k_dflt (refine' con_use (part_of_con _ _ _ _ _ _ _ _ _ ?oghD ?ogh0 ?ogh1 ?oghs) ?ogB ?ogF ?ogX ?ogN ?ogT ?ogkk ?ogd ?ogu ?_; (case ogN => k_asm); (case oghD => k_extra "OG dat"); (case oghs => assumption); (case ogh0 => omega); (case ogh1 => omega); k_extra "OG use"; k_whole); intro qqr9 qqnw9 qqh9 qqtk9 qqF9 qqN9 qqP9; obtain ⟨qqe9, qqt9, qqe9'⟩ := qqP9; (replace qqe9 := qqe9.symm); subst qqe9; subst qqe9'; (try dsimp only); (try k_fold))) | fail "no line"
  trivial

noncomputable def hasParts (rs : List (List (Option Int))) (i : Int) : Bool := decide (1 < (rs[i.toNat]?.getD []).length)
theorem has_parts_con (news : Led) (v : Value) (rs : List (List (Option Int))) (i : Int) (t1 : Tok) (hD : DatIn news v (rowsD rs)) (h0 : 0 ≤ i) (hs : Small rs) : Con 1 143 news [v, .int i t1] (fun news' r => news' = news ∧ r = .bool (hasParts rs i)) := by
  obtain ⟨pa, pvs, pn, rfl, pm, pd⟩ := dat_list hD
  have hlen := hs.1
  clear hD
  unfold Con
  w_top off
  k_fill
  intro w mean mg mb dp un gd cn cs a ccd cl outer A₀ base h₀ L m s Q E B F X N T hk hd hu hret
  refine wpAny_call ?_
  k_dflt (k_extra "OG enter")
  k_steps
  all_goals (refine hret _ news _ _ (by k_asm) (news_sub (by k_asm) (by k_extra "OG sub")) ⟨rfl, congrArg Value.bool ?_⟩)
  · clear qk ek; simp_all [hasParts]; omega
  · (have e9 : rs[i.toNat]? = none := List.getElem?_eq_none (by omega)); simp only [hasParts, e9]; simp; omega
theorem lines_f9 : True := by
  k_with "call ref" => first | ((k_here; (with_reducible show wpAny _ _ (call (Value.ref 143) _ _) _ _ _); k_dflt (refine' con_use (has_parts_con _ _ _ _ _ ?oghD ?ogh0 ?oghs) ?ogB ?ogF ?ogX ?ogN ?ogT ?ogkk ?ogd ?ogu ?_; (case ogN => k_asm); (case oghD => k_extra "OG dat"); (case oghs => assumption); (case ogh0 => omega); k_extra "OG use"; k_whole); intro qqr9 qqnw9 qqh9 qqtk9 qqF9 qqN9 qqP9; obtain ⟨qqe9, qqe9'⟩ := qqP9; (replace qqe9 := qqe9.symm); subst qqe9; subst qqe9'; (try dsimp only); (try k_fold))) | fail "no line"
  trivial

theorem params_of_con (news : Led) (v : Value) (os : List (Option Int)) (hD : DatIn news v (rowD os)) (hz : os.length < 2 ^ 20) : Con 1 108 news [v] (Grown news (rowsD (os.map fun o => [o]))) := by
  obtain ⟨pa, pvs, pn, rfl, pm, pd⟩ := dat_list hD
  clear hD
  unfold Con
  w_top off
  k_fill
  intro w mean mg mb dp un gd cn cs a ccd cl outer A₀ base h₀ L m s Q E B F X N T hk hd hu hret
  refine wpAny_call ?_
  k_dflt (k_extra "OG enter")
  k_steps
  refine Stop.mk (og_src_list (f := optD) (g := fun o => rowD [o]) pm pd (by rfl) (by k_asm) (by k_asm) (fun _ h => h) (by omega) ?_ ?_)
  · intro i y v I oI C oC D oD m₂ tl h tk E' hy hv hC hx F9 N9 off ha ne
    k_steps
    refine Stop.mk (cturn1 (by k_asm) (by k_asm) (by assumption) (DatIn.list (ds := [y].map optD) (List.mem_append_right _ (.head _)) (.cons (DatIn.mono (by k_extra "OG sub") hv) .nil)))
  · intro h1 ys tl ha hy hd9
    k_steps
    obtain ⟨nw9, N9, G9⟩ := grown_comp (by k_asm) ha (by assumption) hd9
    refine hret _ _ _ _ (by k_asm) (by k_asm) ?_
    rw [rowsD, List.map_map]
    exact G9
theorem lines_f10 : True := by
  k_with "call ref" => first | ((k_here; (with_reducible show wpAny _ _ (call (Value.ref 108) _ _) _ _ _); k_dflt (refine' con_use (params_of_con _ _ _ ?oghD ?oghz) ?ogB ?ogF ?ogX ?ogN ?ogT ?ogkk ?ogd ?ogu ?_; (case ogN => k_asm); (case oghD => k_extra "OG dat"); (case oghz => first | assumption | omega); k_extra "OG use"; k_whole); k_dflt (intro qqr9 qqnw9 qqh9 qqtk9 qqF9 qqN9 qqP9; obtain ⟨qqtl9, qqe9, qqha9, qqhd9⟩ := qqP9; subst qqe9; obtain ⟨qqb9, qqvs9, qqn9, qqe9', qqhm9, qqhv9⟩ := dat_list qqhd9; subst qqe9'); (try dsimp only); (try k_fold))) | fail "no line"
  trivial

theorem values_of_con (news : Led) (v : Value) (rs : List (List (Option Int))) (hD : DatIn news v (rowsD rs)) (hs : Small rs) (hz : rs.length < 2 ^ 20) : Con 2 148 news [v] (Grown news (.list ((List.range rs.length).map fun i => .int (plainOf rs (i : Nat) 0)))) := by
  obtain ⟨pa, pvs, pn, rfl, pm, pd⟩ := dat_list hD
  have hlen := hs.1
  unfold Con
  w_top off
  k_fill
  intro w mean mg mb dp un gd cn cs a ccd cl outer A₀ base h₀ L m s Q E B F X N T hk hd hu hret
  refine wpAny_call ?_
  k_dflt (k_extra "OG enterC")
  k_steps
  refine Stop.mk (og_src_range (n := rs.length) (g := fun i => .int (plainOf rs (i : Nat) 0)) (by assumption) rfl (by rfl) (by k_asm) (by k_asm) (by omega) ?_ ?_)
  · rintro i v I oI C oC D oD m₂ tl h tk E' hi ⟨t9, rfl⟩ hC hx F9 N9 off ha ne
    k_steps
    exact Stop.mk (cturn0 (by k_asm) (by k_asm) (.int _ _))
  · intro h1 ys tl ha hy hd9
    k_steps
    obtain ⟨nw9, N9, G9⟩ := grown_comp1 (by k_asm) ha (fun q hq => Nat.ne_of_lt (Nat.lt_succ_of_lt ((by assumption : ∀ p ∈ news, p.1 < _) q hq))) (by assumption) hd9
    exact hret _ _ _ _ (by k_asm) (by k_asm) G9
/-- the figures of a number, the last one first, as octets -/
noncomputable def digR (n : Nat) : List Int := (48 + ((n % 10 : Nat) : Int)) :: (if h : n / 10 = 0 then [] else digR (n / 10))
termination_by n
decreasing_by omega
theorem digR_len : ∀ (k n : Nat), n < 10 ^ (k + 1) → (digR n).length ≤ k + 1 := by
  intro k
  induction k with
  | zero =>
    intro n h
    rw [digR, dif_pos (by omega)]
    simp
  | succ k ih =>
    intro n h
    rw [digR]
    split
    · simp
    · have := ih (n / 10) (by rw [Nat.pow_succ] at h; omega)
      simp only [List.length_cons]
      omega
theorem digR_in : ∀ (n : Nat), ∀ k ∈ digR n, 48 ≤ k ∧ k < 58 := by
  intro n
  induction n using Nat.strongRecOn with
  | _ n ih =>
    rw [digR]
    intro k hk
    rcases List.mem_cons.mp hk with rfl | hk
    · omega
    · split at hk
      · cases hk
      · exact ih (n / 10) (by omega) k hk
theorem digR_step (n : Int) (h : 0 ≤ n) : digR n.toNat = (48 + n.fmod 10) :: (if (n.fdiv 10).toNat = 0 then [] else digR (n.fdiv 10).toNat) := by
  rw [digR]
  have e1 : n.fmod 10 = ((n.toNat % 10 : Nat) : Int) := by rw [Int.fmod_eq_emod_of_nonneg _ (by decide)]; omega
  have e2 : (n.fdiv 10).toNat = n.toNat / 10 := by rw [Int.fdiv_eq_ediv_of_nonneg _ (by decide)]; omega
  rw [e1, e2]
  by_cases q : n.toNat / 10 = 0
  · rw [dif_pos q, if_pos q]
  · rw [dif_neg q, if_neg q]
noncomputable def decB (n : Int) : Array UInt8 := byteArr (digR n.toNat).reverse
theorem decimal_octets_con (news : Led) (n : Int) (t1 : Tok) (h0 : 0 ≤ n) (h1 : n < 10 ^ 18) : Con 1 28 news [.int n t1] (fun news' r => news' = news ∧ ∃ t, r = .bytes (decB n) t) := by
  unfold Con
  w_top off
  k_fill
  intro w mean mg mb dp un gd cn cs a ccd cl outer A₀ base h₀ L m s Q E B F X N T hk hd hu hret
  refine wpAny_call ?_
  k_dflt (k_extra "OG enter")
  k_steps
  rename_i lD hh2 l1D hh1 hh0 FD ND
  have hne : ∀ p ∈ news, p.1 ≠ lD := fun p hp => Nat.ne_of_lt (l1D p hp)
  refine Stop.mk (ksw_while (σ := Int × List Value × List Int × Nat × Tok) (fun c => (lD, listOf c.2.1.toArray c.2.2.2.1) :: news) (fun c => [(Str.ofString "rest", .int c.1 c.2.2.2.2)]) (fun _ => True) [] (fun c => 0 ≤ c.1 ∧ IntsAre c.2.1 c.2.2.1 ∧ c.2.2.1 ++ (if c.1.toNat = 0 then [] else digR c.1.toNat) = digR n.toNat) (fun c => c.1.toNat)
    (n.fdiv 10, _, [48 + n.fmod 10], _, _) FD ND trivial (by intro p hp; rw [List.mem_singleton.mp hp]; rfl) ⟨?_, .cons _ _ .nil, ?_⟩ ?_)
  · rw [Int.fdiv_eq_ediv_of_nonneg _ (by decide)]; omega
  · rw [digR_step n h0]; rfl
  · rintro ⟨rest, vs, found, kk, t9⟩ u h tk9 _ ⟨p1, p2, p3⟩ F9 N9
    dsimp only at p1 p2 p3 F9 N9
    have hz : found.length ≤ 18 := by
      have e := congrArg List.length p3
      have := digR_len 17 n.toNat (by omega)
      rw [List.length_append] at e
      omega
    have hz2 : vs.length ≤ 18 := by rw [p2.length]; exact hz
    have hr9 : ∀ k ∈ found.reverse, 0 ≤ k ∧ k < 256 := fun k hk => by
      have := digR_in n.toNat k (p3 ▸ List.mem_append_left _ (List.mem_reverse.mp hk))
      omega
    simp only [kstB] at F9
    k_steps
    · rename_i Fq Nq
      simp only [List.push_toArray] at Nq
      refine ksw_end (rest.fdiv 10, vs ++ [.int (48 + rest.fmod 10) _], found ++ [48 + rest.fmod 10], _, _) Fq Nq (fun p hp => hp) trivial (by intro p hp; rw [List.mem_singleton.mp hp]; rfl) ?_ ⟨?_, ?_, ?_⟩ ?_
      · ksw_same
      · rw [Int.fdiv_eq_ediv_of_nonneg _ (by decide)]; omega
      · exact p2.append (.cons _ _ .nil)
      · have e9 : (if rest.toNat = 0 then [] else digR rest.toNat) = digR rest.toNat := if_neg (by omega)
        rw [← p3, e9, digR_step rest p1]
        dsimp only
        rw [List.append_assoc]
        rfl
      · dsimp only; rw [Int.fdiv_eq_ediv_of_nonneg _ (by decide)]; omega
    · have e : found = digR n.toNat := by rw [← p3, if_pos (by omega), List.append_nil]
      exact hret _ news _ _ (by k_asm) (news_sub (by k_asm) (by k_extra "OG sub")) ⟨rfl, _, by rw [e]; rfl⟩
theorem lines_f11 : True := by
  k_with "call ref" => first | ((k_here; (with_reducible show wpAny _ _ (call (Value.ref 28) _ _) _ _ _); k_dflt (refine' con_use (decimal_octets_con _ _ _ ?ogh0 ?ogh1) ?ogB ?ogF ?ogX ?ogN ?ogT ?ogkk ?ogd ?ogu ?_; (case ogN => k_asm); (case ogh0 => first | assumption | omega); (case ogh1 => first | assumption | omega); k_extra "OG use"; k_whole); intro qqr9 qqnw9 qqh9 qqtk9 qqF9 qqN9 qqP9; obtain ⟨qqe9, qqt9, qqe9'⟩ := qqP9; (replace qqe9 := qqe9.symm); subst qqe9; subst qqe9'; (try dsimp only); (try k_fold))) | fail "no line"
  trivial

noncomputable def partB : Option Int → Array UInt8
  | none => #[]
  | some i => decB i
theorem part_octets_none (news : Led) : Con 2 98 news [.none] (fun news' r => news' = news ∧ ∃ t, r = .bytes (partB none) t) := by
  unfold Con
  w_top off
  k_fill
  intro w mean mg mb dp un gd cn cs a ccd cl outer A₀ base h₀ L m s Q E B F X N T hk hd hu hret
  refine wpAny_call ?_
  k_dflt (k_extra "OG enter")
  k_steps
  all_goals exact hret _ news _ _ (by k_asm) (news_sub (by k_asm) (by k_extra "OG sub")) ⟨rfl, _, rfl⟩
theorem part_octets_some (news : Led) (i : Int) (t1 : Tok) (h0 : 0 ≤ i) (h1 : i < 10 ^ 18) : Con 2 98 news [.int i t1] (fun news' r => news' = news ∧ ∃ t, r = .bytes (partB (some i)) t) := by
  unfold Con
  w_top off
  k_fill
  intro w mean mg mb dp un gd cn cs a ccd cl outer A₀ base h₀ L m s Q E B F X N T hk hd hu hret
  refine wpAny_call ?_
  k_dflt (k_extra "OG enter")
  k_steps
  all_goals exact hret _ news _ _ (by k_asm) (news_sub (by k_asm) (by k_extra "OG sub")) ⟨rfl, _, rfl⟩
/-- the rows are of a size that nothing overflows -/
noncomputable def Tame (rs : List (List (Option Int))) : Prop := rs.length ≤ 100 ∧ ∀ r ∈ rs, r.length ≤ 100 ∧ ∀ i, some i ∈ r → 0 ≤ i ∧ i < 10 ^ 18
theorem Tame.small {rs : List (List (Option Int))} (h : Tame rs) : Small rs := ⟨Nat.lt_of_le_of_lt h.1 (by decide), fun r hr => Nat.lt_of_le_of_lt (h.2 r hr).1 (by decide)⟩
theorem part_octets_con (news : Led) (v : Value) (o : Option Int) (hv : DatIn news v (optD o)) (ho : ∀ i, o = some i → 0 ≤ i ∧ i < 10 ^ 18) : Con 2 98 news [v] (fun news' r => news' = news ∧ ∃ t, r = .bytes (partB o) t) := by
  rcases dat_opt hv with ⟨rfl, rfl⟩ | ⟨i, t, rfl, rfl⟩
  · exact part_octets_none news
  · exact part_octets_some news i t (ho i rfl).1 (ho i rfl).2
theorem lines_f12 : True := by
  k_with "call ref" => first | ((k_here; (with_reducible show wpAny _ _ (call (Value.ref 98) _ _) _ _ _); k_dflt (refine' con_use (part_octets_con _ _ _ ?oghv ?ogho) ?ogB ?ogF ?ogX ?ogN ?ogT ?ogkk ?ogd ?ogu ?_; (case ogN => k_asm); (case oghv => (refine' DatIn.mono ?ogs9 ?ogh9; (case ogh9 => assumption); (case ogs9 => k_extra "OG sub"))); (case ogho => assumption); k_extra "OG use"; k_whole); intro qqr9 qqnw9 qqh9 qqtk9 qqF9 qqN9 qqP9; obtain ⟨qqe9, qqt9, qqe9'⟩ := qqP9; (replace qqe9 := qqe9.symm); subst qqe9; subst qqe9'; (try dsimp only); (try k_fold))) | fail "no line"
  trivial

noncomputable def rowB (r : List (Option Int)) : Array UInt8 := Builtin.Bytes.joined #[58] (r.map partB)
noncomputable def paramsB (rs : List (List (Option Int))) : Array UInt8 := Builtin.Bytes.joined #[59] (rs.map rowB)
theorem decB_size {i : Int} (h0 : 0 ≤ i) (h : i < 10 ^ 18) : (decB i).size ≤ 18 := by
  rw [decB, byteArr_size, List.length_reverse]
  exact digR_len 17 i.toNat (by omega)
theorem sum_le {α : Type} (f : α → Nat) (k : Nat) : ∀ (l : List α), (∀ x ∈ l, f x ≤ k) → (l.map f).sum ≤ k * l.length
  | [], _ => by simp
  | x :: r, h => by
    have h1 := h x (.head _)
    have h2 := sum_le f k r fun y hy => h y (.tail _ hy)
    rw [List.map_cons, List.sum_cons, List.length_cons, Nat.mul_add]
    omega
theorem joinLen_le (c : UInt8) (bs : List (Array UInt8)) (k : Nat) (h : ∀ b ∈ bs, b.size ≤ k) : joinLen #[c] bs ≤ (k + 1) * bs.length := by
  have := sum_le (fun b : Array UInt8 => b.size) k bs h
  have e : (#[c] : Array UInt8).size = 1 := rfl
  rw [joinLen, e, Nat.add_mul]
  omega
theorem row_len {r : List (Option Int)} (h1 : r.length ≤ 100) (h2 : ∀ i, some i ∈ r → 0 ≤ i ∧ i < 10 ^ 18) : joinLen #[58] (r.map partB) ≤ 1900 := by
  have h : ∀ b ∈ r.map partB, b.size ≤ 18 := fun b hb => by
    obtain ⟨o, ho, rfl⟩ := List.mem_map.mp hb
    cases o with
    | none => exact Nat.zero_le _
    | some i => exact decB_size (h2 i ho).1 (h2 i ho).2
  have := joinLen_le 58 _ 18 h
  rw [List.length_map] at this
  omega
theorem rows_len {rs : List (List (Option Int))} (h : Tame rs) : joinLen #[59] (rs.map rowB) ≤ 190100 := by
  have h' : ∀ b ∈ rs.map rowB, b.size ≤ 1900 := fun b hb => by
    obtain ⟨r, hr, rfl⟩ := List.mem_map.mp hb
    exact Nat.le_trans (joined_size _ _) (row_len (h.2 r hr).1 (h.2 r hr).2)
  have := joinLen_le 59 _ 1900 h'
  rw [List.length_map] at this
  have := h.1
  omega
theorem params_octets_con (news : Led) (v : Value) (rs : List (List (Option Int))) (hD : DatIn news v (rowsD rs)) (hT : Tame rs) : Con 3 103 news [v] (fun news' r => news' = news ∧ ∃ t, r = .bytes (paramsB rs) t) := by
  obtain ⟨pa, pvs, pn, rfl, pm, pd⟩ := dat_list hD
  have hlen := hT.1
  unfold Con
  w_top off
  k_fill
  intro w mean mg mb dp un gd cn cs a ccd cl outer A₀ base h₀ L m s Q E B F X N T hk hd hu hret
  refine wpAny_call ?_
  k_dflt (k_extra "OG enter")
  k_steps
  refine Stop.mk (og_src_list (f := rowD) (g := Dat.bytes ∘ rowB) pm pd (by rfl) (by k_asm) (by k_asm) (fun _ h => h) (by omega) ?_ ?_)
  · intro i y v I oI C oC D oD m₂ tl h tk E' hy hv hC hx F9 N9 off ha ne
    have hy2 := hT.2 y (List.mem_of_getElem? hy)
    have hyl := hy2.1
    obtain ⟨b, vs, n, rfl, hb, hvs⟩ := dat_list hv
    k_steps
    refine Stop.mk (og_src_list (f := optD) (g := Dat.bytes ∘ partB) hb hvs (by rfl) (by k_asm) (by k_asm) (by k_extra "OG sub") (by omega) ?_ ?_)
    · intro i2 y2 v2 I2 oI2 C2 oC2 D2 oD2 m2 tl2 h2 tk2 E2 hy2' hv2 hC2 hx2 F2 N2 off2 ha2 ne2
      have ho : ∀ j, y2 = some j → 0 ≤ j ∧ j < 10 ^ 18 := fun j e => hy2.2 j (e ▸ List.mem_of_getElem? hy2')
      k_steps
      exact Stop.mk (cturn0 (by k_asm) (by k_asm) (.bytes _ _))
    · intro h1 ys tl1 ha1 hy1 hd1
      rw [← List.map_map] at hd1
      have hz1 : joinLen [58].toArray (y.map partB) ≤ 16777216 := Nat.le_trans (row_len hy2.1 hy2.2) (by decide)
      k_steps
      exact Stop.mk (cturn0 (by k_asm) (news_sub (by k_asm) (by k_extra "OG sub")) (.bytes _ _))
  · intro h1 ys tl ha hy hd9
    rw [← List.map_map] at hd9
    have hz1 : joinLen [59].toArray (rs.map rowB) ≤ 16777216 := Nat.le_trans (rows_len hT) (by decide)
    k_steps
    exact hret _ news _ _ (by k_asm) (news_sub (by k_asm) (by k_extra "OG sub")) ⟨rfl, _, rfl⟩
theorem lines_f13 : True := by
  k_with "call ref" => first | ((k_here; (with_reducible show wpAny _ _ (call (Value.ref 103) _ _) _ _ _); k_dflt (refine' con_use (params_octets_con _ _ _ ?oghD ?oghT) ?ogB ?ogF ?ogX ?ogN ?ogT ?ogkk ?ogd ?ogu ?_; (case ogN => k_asm); (case oghD => k_extra "OG dat"); (case oghT => assumption); k_extra "OG use"; k_whole); intro qqr9 qqnw9 qqh9 qqtk9 qqF9 qqN9 qqP9; obtain ⟨qqe9, qqt9, qqe9'⟩ := qqP9; (replace qqe9 := qqe9.symm); subst qqe9; subst qqe9'; (try dsimp only); (try k_fold))) | fail "no line"
  trivial

theorem paramsB_size {rs : List (List (Option Int))} (h : Tame rs) : (paramsB rs).size ≤ 190100 := Nat.le_trans (joined_size _ _) (rows_len h)
theorem params_shown_con (news : Led) (v : Value) (rs : List (List (Option Int))) (hD : DatIn news v (rowsD rs)) (hT : Tame rs) : Con 4 155 news [v] (fun news' r => news' = news ∧ ∃ t, r = .int ((paramsB rs).size : Int) t) := by
  have hz9 : (paramsB rs).size ≤ 1099511627776 := Nat.le_trans (paramsB_size hT) (by decide)
  unfold Con
  w_top off
  k_fill
  intro w mean mg mb dp un gd cn cs a ccd cl outer A₀ base h₀ L m s Q E B F X N T hk hd hu hret
  refine wpAny_call ?_
  k_dflt (k_extra "OG enter")
  k_steps
  all_goals exact hret _ news _ _ (by k_asm) (news_sub (by k_asm) (by k_extra "OG sub")) ⟨rfl, _, rfl⟩
noncomputable def trimR (rs : List (List (Option Int))) : List (List (Option Int)) := (rs.reverse.dropWhile (· == [none])).reverse
theorem trimR_nil : trimR [] = [] := rfl
theorem trimR_snoc (rs : List (List (Option Int))) (r : List (Option Int)) : trimR (rs ++ [r]) = if r = [none] then trimR rs else rs ++ [r] := by
  unfold trimR
  rw [List.reverse_append, List.reverse_singleton, List.singleton_append, List.dropWhile_cons]
  by_cases h : r = [none]
  · rw [if_pos h, if_pos (by rw [h]; rfl)]
  · rw [if_neg h, if_neg (by simpa using h)]
    simp
theorem take_snoc {α : Type} {xs : List α} {k : Nat} {x : α} (h : xs[k]? = some x) : xs.take (k + 1) = xs.take k ++ [x] := by
  rw [List.take_add_one, h]; rfl
theorem trim_step {rs : List (List (Option Int))} {k : Int} {r : List (Option Int)} (h0 : 0 < k) (h : rs[(k - 1).toNat]? = some r) : trimR (rs.take k.toNat) = if r = [none] then trimR (rs.take (k - 1).toNat) else rs.take k.toNat := by
  have e : k.toNat = (k - 1).toNat + 1 := by omega
  rw [e, take_snoc h, trimR_snoc]
theorem params_trimmed_con (news : Led) (v : Value) (rs : List (List (Option Int))) (hD : DatIn news v (rowsD rs)) (hT : Tame rs) : Con 2 160 news [v] (Grown news (rowsD (trimR rs))) := by
  obtain ⟨pa, pvs, pn, rfl, pm, pd⟩ := dat_list hD
  have hlen := hT.1
  unfold Con
  w_top off
  k_fill
  intro w mean mg mb dp un gd cn cs a ccd cl outer A₀ base h₀ L m s Q E B F X N T hk hd hu hret
  refine wpAny_call ?_
  k_dflt (k_extra "OG enter")
  k_steps
  rename_i FD ND
  refine Stop.mk (ksw_while (σ := Int × Tok) (fun _ => news) (fun c => [(Str.ofString "many", .int c.1 c.2)]) (fun _ => True) [] (fun c => 0 ≤ c.1 ∧ c.1 ≤ (rs.length : Int) ∧ trimR (rs.take c.1.toNat) = trimR rs) (fun c => c.1.toNat)
    ((rs.length : Int), _) FD ND trivial (by intro p hp; rw [List.mem_singleton.mp hp]; rfl) ⟨by omega, by omega, by rw [Int.toNat_natCast, List.take_length]⟩ ?_)
  rintro ⟨many, t9⟩ u h tk9 _ ⟨p1, p2, p3⟩ F9 N9
  dsimp only at p1 p2 p3 F9 N9
  simp only [kstB] at F9
  k_steps
  · have hq9 : trimR (rs.take many.toNat) = trimR (rs.take (many - 1).toNat) := by rw [trim_step (by omega) (by assumption), if_pos (by first | assumption | exact of_decide_eq_true (by assumption))]
    refine ksw_end (many - 1, _) (by k_asm) (news_sub (by k_asm) (by k_extra "OG sub")) (fun _ h => h) trivial (by intro p hp; rw [List.mem_singleton.mp hp]; rfl) (by ksw_same) ⟨by dsimp only; omega, by dsimp only; omega, ?_⟩ (by dsimp only; omega)
    rw [← p3, hq9]
  all_goals (have e9 : rs.take many.toNat = trimR rs := by first | (rw [← p3, trim_step (by omega) (by assumption), if_neg (by first | assumption | exact of_decide_eq_false (by assumption))]; done) | ((have e0 : many.toNat = 0 := by omega); rw [← p3, e0]; rfl))
  all_goals (have hl9 : (trimR rs).length ≤ 100 := by rw [← e9, List.length_take]; omega)
  all_goals (have hr9 : ∀ r ∈ trimR rs, r.length ≤ 100 := fun r hr => (hT.2 r (List.mem_of_mem_take (e9 ▸ hr))).1)
  all_goals
    refine Stop.mk (og_src_list (f := rowD) (g := rowD) (xs := trimR rs) (led := (_, listOf _ _) :: news) (news := (_, listOf _ _) :: news) (.head _) (DatAll.mono sub_tail_self (by rw [← e9]; assumption)) (by rfl) (by k_asm) (news_sub (by k_asm) (by k_extra "OG sub")) (fun _ h => h) (by omega) ?t9 ?f9)
    case t9 =>
      intro i y v I oI C oC D oD m₂ tl h8 tk8 E' hy hv hC hx F8 N8 off ha ne
      have hyl := hr9 y (List.mem_of_getElem? hy)
      obtain ⟨b, vs, n, rfl, hb, hvs⟩ := dat_list hv
      k_steps
      exact Stop.mk (cturn1 (by k_asm) (by k_asm) (by assumption) (DatIn.list (List.mem_append_right _ (.head _)) (DatAll.mono (by k_extra "OG sub") hvs)))
    case f9 =>
      intro h1 ys tl ha hy hd8
      k_steps
      obtain ⟨nw8, N8, G8⟩ := grown_comp1 (by k_asm) ha (by first | (intro q hq; exact Nat.ne_of_lt (allLt_of' (by assumption : _ ∧ AllLt _ news).2 q hq)) | (intro q hq; exact Nat.ne_of_lt ((by assumption : ∀ p ∈ news, p.1 < _) q hq))) (by assumption) hd8
      exact hret _ _ _ _ (by k_asm) (by k_asm) G8
theorem lines_f14 : True := by
  k_with "call ref" => first | ((k_here; (with_reducible show wpAny _ _ (call (Value.ref 160) _ _) _ _ _); k_dflt (refine' con_use (params_trimmed_con _ _ _ ?oghD ?oghT) ?ogB ?ogF ?ogX ?ogN ?ogT ?ogkk ?ogd ?ogu ?_; (case ogN => k_asm); (case oghD => k_extra "OG dat"); (case oghT => assumption); k_extra "OG use"; k_whole); k_dflt (intro qqr9 qqnw9 qqh9 qqtk9 qqF9 qqN9 qqP9; obtain ⟨qqtl9, qqe9, qqha9, qqhd9⟩ := qqP9; subst qqe9; obtain ⟨qqb9, qqvs9, qqn9, qqe9', qqhm9, qqhv9⟩ := dat_list qqhd9; subst qqe9'); (try dsimp only); (try k_fold))) | fail "no line"
  trivial

theorem are_like_con (news : Led) (v1 v2 : Value) (rs qs : List (List (Option Int))) (hD1 : DatIn news v1 (rowsD rs)) (hD2 : DatIn news v2 (rowsD qs)) (hT1 : Tame rs) (hT2 : Tame qs) : Con 3 167 news [v1, v2] (fun news' r => news' = news ∧ r = .bool (decide (trimR rs = trimR qs))) := by
  unfold Con
  w_top off
  k_fill
  intro w mean mg mb dp un gd cn cs a ccd cl outer A₀ base h₀ L m s Q E B F X N T hk hd hu hret
  refine wpAny_call ?_
  k_dflt (k_extra "OG enter")
  k_steps
  all_goals exact hret _ news _ _ (by k_asm) (news_sub (by k_asm) (by k_extra "OG sub")) ⟨rfl, rfl⟩
theorem lines_f15 : True := by
  k_with "call ref" => first | ((k_here; (with_reducible show wpAny _ _ (call (Value.ref 167) _ _) _ _ _); k_dflt (refine' con_use (are_like_con _ _ _ _ _ ?oghD ?oghE ?oghT ?oghU) ?ogB ?ogF ?ogX ?ogN ?ogT ?ogkk ?ogd ?ogu ?_; (case ogN => k_asm); (case oghD => k_extra "OG dat"); (case oghE => k_extra "OG dat"); (case oghT => assumption); (case oghU => assumption); k_extra "OG use"; k_whole); k_dflt (intro qqr9 qqnw9 qqh9 qqtk9 qqF9 qqN9 qqP9; obtain ⟨qqe9, qqe9'⟩ := qqP9; (replace qqe9 := qqe9.symm); subst qqe9; subst qqe9'); (try dsimp only); (try k_fold))) | fail "no line"
  trivial

theorem law_draw_con (W nu : Addr) (ns : List Int) (nvs : List Value) (nn n : Nat) (rest : Led) (i stir size : Int) (t1 t2 t3 : Tok) (hi : IntsAre nvs ns) (hns : ∀ k ∈ ns, 0 ≤ k ∧ k < 1000003) (hlen : ns.length ≤ 63) (h0 : 0 ≤ i) (h1 : i ≤ 1000) (h2 : 0 ≤ stir) (h3 : stir ≤ 200000) (h4 : 1 ≤ size) (h5 : size < 2 ^ 20) (hne : @Ne Nat W nu) (hW : ∀ p ∈ rest, p.1 ≠ W) :
    Con 1 176 ((W, listOf #[.ref nu, .int i t1, .int stir t2] n) :: (nu, listOf nvs.toArray nn) :: rest) [.ref W, .int size t3]
      (fun news' r => ∃ stir' t4 t5 n' x t6, news' = (W, listOf #[.ref nu, .int (i + 1) t4, .int stir' t5] n') :: (nu, listOf nvs.toArray nn) :: rest ∧ 0 ≤ stir' ∧ stir' ≤ 200000 ∧ r = .int x t6 ∧ 0 ≤ x ∧ x < size) := by
  unfold Con
  w_top off
  k_fill
  intro w mean mg mb dp un gd cn cs a ccd cl outer A₀ base h₀ L m s Q E B F X N T hk hd hu hret
  have hlen2 := hi.length
  refine wpAny_call ?_
  k_dflt (k_extra "OG enter")
  k_steps
  all_goals (refine hret _ ((W, listOf #[.ref nu, .int (i + 1) _, .int _ _] _) :: (nu, listOf nvs.toArray nn) :: rest) _ _ (by k_asm) (news_sub (by k_asm) (by k_extra "OG sub")) ⟨_, _, _, _, _, _, rfl, ?_, ?_, rfl, ?_, ?_⟩)
  all_goals (rw [Int.fmod_eq_emod_of_nonneg _ (by omega)])
  all_goals first | exact Int.emod_nonneg _ (by omega) | exact Int.emod_lt_of_pos _ (by omega) | exact Int.le_of_lt (Int.lt_of_lt_of_le (Int.emod_lt_of_pos _ (by omega)) (by omega))
/-- the well: a list of the numbers, the place, the stir -/
noncomputable abbrev wellO (nu : Addr) (i stir : Int) (t1 t2 : Tok) (n : Nat) : Obj := listOf #[.ref nu, .int i t1, .int stir t2] n
theorem law_draw_any (pre post : Led) (W nu : Addr) (ns : List Int) (nvs : List Value) (nn n : Nat) (i stir size : Int) (t1 t2 t3 : Tok) (hnu : (nu, listOf nvs.toArray nn) ∈ pre ++ post) (hi : IntsAre nvs ns) (hns : ∀ k ∈ ns, 0 ≤ k ∧ k < 1000003) (hlen : ns.length ≤ 63) (h0 : 0 ≤ i ∧ i ≤ 1000) (h2 : 0 ≤ stir ∧ stir ≤ 200000) (h4 : 1 ≤ size) (h5 : size < 2 ^ 20) (hW : ∀ p ∈ pre ++ post, p.1 ≠ W) :
    Con 1 176 (pre ++ (W, wellO nu i stir t1 t2 n) :: post) [.ref W, .int size t3]
      (fun news' r => ∃ stir' t4 t5 n' x t6, news' = pre ++ (W, wellO nu (i + 1) stir' t4 t5 n') :: post ∧ (0 ≤ stir' ∧ stir' ≤ 200000) ∧ r = .int x t6 ∧ 0 ≤ x ∧ x < size) := by
  intro w mean mg mb dp un gd cn cs a ccd cl outer A₀ base h₀ L m s Q E B F X N T hk hd hu hret
  have C := law_draw_con W nu ns nvs nn n (pre ++ post) i stir size t1 t2 t3 hi hns hlen h0.1 h0.2 h2.1 h2.2 h4 h5 (hW _ hnu).symm hW
  refine C w mean mg mb dp un gd cn cs a ccd cl outer A₀ base h₀ L m s Q E B F X (news_sub N ?_) T hk hd hu ?_
  · intro p hp
    simp only [List.mem_cons, List.mem_append] at hp ⊢
    rcases hp with hp | hp | hp | hp
    · exact .inr (.inl hp)
    · subst hp
      rcases List.mem_append.mp hnu with h | h
      · exact .inl h
      · exact .inr (.inr h)
    · exact .inl hp
    · exact .inr (.inr hp)
  · rintro r news' h' tk' F' N' ⟨stir', t4, t5, n', x, t6, rfl, g1, g2, rfl, g3, g4⟩
    refine hret _ (pre ++ (W, wellO nu (i + 1) stir' t4 t5 n') :: post) _ _ F' (news_sub N' ?_) ⟨_, _, _, _, _, _, rfl, ⟨g1, g2⟩, rfl, g3, g4⟩
    intro p hp
    simp only [List.mem_cons, List.mem_append] at hp ⊢
    rcases hp with hp | hp | hp
    · exact .inr (.inr (.inl hp))
    · exact .inl hp
    · exact .inr (.inr (.inr hp))
theorem law_draw_p0 (post : Led) (W nu : Addr) (ns : List Int) (nvs : List Value) (nn n : Nat) (i stir size : Int) (t1 t2 t3 : Tok) (hnu : (nu, listOf nvs.toArray nn) ∈ post) (hi : IntsAre nvs ns) (hns : ∀ k ∈ ns, 0 ≤ k ∧ k < 1000003) (hlen : ns.length ≤ 63) (h0 : 0 ≤ i ∧ i ≤ 1000) (h2 : 0 ≤ stir ∧ stir ≤ 200000) (h4 : 1 ≤ size) (h5 : size < 2 ^ 20) (hW : ∀ p ∈ post, p.1 ≠ W) :
    Con 1 176 ((W, wellO nu i stir t1 t2 n) :: post) [.ref W, .int size t3]
      (fun news' r => ∃ stir' t4 t5 n' x t6, news' = (W, wellO nu (i + 1) stir' t4 t5 n') :: post ∧ (0 ≤ stir' ∧ stir' ≤ 200000) ∧ r = .int x t6 ∧ 0 ≤ x ∧ x < size) :=
  law_draw_any [] post W nu ns nvs nn n i stir size t1 t2 t3 hnu hi hns hlen h0 h2 h4 h5 hW
theorem law_draw_p1 (p0 : Addr × Obj) (post : Led) (W nu : Addr) (ns : List Int) (nvs : List Value) (nn n : Nat) (i stir size : Int) (t1 t2 t3 : Tok) (hnu : (nu, listOf nvs.toArray nn) ∈ p0 :: post) (hi : IntsAre nvs ns) (hns : ∀ k ∈ ns, 0 ≤ k ∧ k < 1000003) (hlen : ns.length ≤ 63) (h0 : 0 ≤ i ∧ i ≤ 1000) (h2 : 0 ≤ stir ∧ stir ≤ 200000) (h4 : 1 ≤ size) (h5 : size < 2 ^ 20) (hW : ∀ p ∈ p0 :: post, p.1 ≠ W) :
    Con 1 176 (p0 :: (W, wellO nu i stir t1 t2 n) :: post) [.ref W, .int size t3]
      (fun news' r => ∃ stir' t4 t5 n' x t6, news' = p0 :: (W, wellO nu (i + 1) stir' t4 t5 n') :: post ∧ (0 ≤ stir' ∧ stir' ≤ 200000) ∧ r = .int x t6 ∧ 0 ≤ x ∧ x < size) :=
  law_draw_any [p0] post W nu ns nvs nn n i stir size t1 t2 t3 hnu hi hns hlen h0 h2 h4 h5 hW
theorem law_draw_p2 (p0 p1 : Addr × Obj) (post : Led) (W nu : Addr) (ns : List Int) (nvs : List Value) (nn n : Nat) (i stir size : Int) (t1 t2 t3 : Tok) (hnu : (nu, listOf nvs.toArray nn) ∈ p0 :: p1 :: post) (hi : IntsAre nvs ns) (hns : ∀ k ∈ ns, 0 ≤ k ∧ k < 1000003) (hlen : ns.length ≤ 63) (h0 : 0 ≤ i ∧ i ≤ 1000) (h2 : 0 ≤ stir ∧ stir ≤ 200000) (h4 : 1 ≤ size) (h5 : size < 2 ^ 20) (hW : ∀ p ∈ p0 :: p1 :: post, p.1 ≠ W) :
    Con 1 176 (p0 :: p1 :: (W, wellO nu i stir t1 t2 n) :: post) [.ref W, .int size t3]
      (fun news' r => ∃ stir' t4 t5 n' x t6, news' = p0 :: p1 :: (W, wellO nu (i + 1) stir' t4 t5 n') :: post ∧ (0 ≤ stir' ∧ stir' ≤ 200000) ∧ r = .int x t6 ∧ 0 ≤ x ∧ x < size) :=
  law_draw_any [p0, p1] post W nu ns nvs nn n i stir size t1 t2 t3 hnu hi hns hlen h0 h2 h4 h5 hW
theorem law_draw_p3 (p0 p1 p2 : Addr × Obj) (post : Led) (W nu : Addr) (ns : List Int) (nvs : List Value) (nn n : Nat) (i stir size : Int) (t1 t2 t3 : Tok) (hnu : (nu, listOf nvs.toArray nn) ∈ p0 :: p1 :: p2 :: post) (hi : IntsAre nvs ns) (hns : ∀ k ∈ ns, 0 ≤ k ∧ k < 1000003) (hlen : ns.length ≤ 63) (h0 : 0 ≤ i ∧ i ≤ 1000) (h2 : 0 ≤ stir ∧ stir ≤ 200000) (h4 : 1 ≤ size) (h5 : size < 2 ^ 20) (hW : ∀ p ∈ p0 :: p1 :: p2 :: post, p.1 ≠ W) :
    Con 1 176 (p0 :: p1 :: p2 :: (W, wellO nu i stir t1 t2 n) :: post) [.ref W, .int size t3]
      (fun news' r => ∃ stir' t4 t5 n' x t6, news' = p0 :: p1 :: p2 :: (W, wellO nu (i + 1) stir' t4 t5 n') :: post ∧ (0 ≤ stir' ∧ stir' ≤ 200000) ∧ r = .int x t6 ∧ 0 ≤ x ∧ x < size) :=
  law_draw_any [p0, p1, p2] post W nu ns nvs nn n i stir size t1 t2 t3 hnu hi hns hlen h0 h2 h4 h5 hW
theorem law_draw_p4 (p0 p1 p2 p3 : Addr × Obj) (post : Led) (W nu : Addr) (ns : List Int) (nvs : List Value) (nn n : Nat) (i stir size : Int) (t1 t2 t3 : Tok) (hnu : (nu, listOf nvs.toArray nn) ∈ p0 :: p1 :: p2 :: p3 :: post) (hi : IntsAre nvs ns) (hns : ∀ k ∈ ns, 0 ≤ k ∧ k < 1000003) (hlen : ns.length ≤ 63) (h0 : 0 ≤ i ∧ i ≤ 1000) (h2 : 0 ≤ stir ∧ stir ≤ 200000) (h4 : 1 ≤ size) (h5 : size < 2 ^ 20) (hW : ∀ p ∈ p0 :: p1 :: p2 :: p3 :: post, p.1 ≠ W) :
    Con 1 176 (p0 :: p1 :: p2 :: p3 :: (W, wellO nu i stir t1 t2 n) :: post) [.ref W, .int size t3]
      (fun news' r => ∃ stir' t4 t5 n' x t6, news' = p0 :: p1 :: p2 :: p3 :: (W, wellO nu (i + 1) stir' t4 t5 n') :: post ∧ (0 ≤ stir' ∧ stir' ≤ 200000) ∧ r = .int x t6 ∧ 0 ≤ x ∧ x < size) :=
  law_draw_any [p0, p1, p2, p3] post W nu ns nvs nn n i stir size t1 t2 t3 hnu hi hns hlen h0 h2 h4 h5 hW
theorem lines_f16 : True := by
  k_with "call ref" => first | ((k_here; (with_reducible show wpAny _ _ (call (Value.ref 176) _ _) _ _ _); k_dflt (first
  | (refine' con_use (law_draw_p0 _ _ _ _ _ _ _ _ _ _ _ _ _ ?oghnu ?oghi ?oghns ?oghlen ?ogh0 ?ogh2 ?ogh4 ?ogh5 ?oghW) ?ogB ?ogF ?ogX ?ogN ?ogT ?ogkk ?ogd ?ogu ?_; (case ogN => with_reducible assumption))
  | (refine' con_use (law_draw_p1 _ _ _ _ _ _ _ _ _ _ _ _ _ _ ?oghnu ?oghi ?oghns ?oghlen ?ogh0 ?ogh2 ?ogh4 ?ogh5 ?oghW) ?ogB ?ogF ?ogX ?ogN ?ogT ?ogkk ?ogd ?ogu ?_; (case ogN => with_reducible assumption))
  | (refine' con_use (law_draw_p2 _ _ _ _ _ _ _ _ _ _ _ _ _ _ _ ?oghnu ?oghi ?oghns ?oghlen ?ogh0 ?ogh2 ?ogh4 ?ogh5 ?oghW) ?ogB ?ogF ?ogX ?ogN ?ogT ?ogkk ?ogd ?ogu ?_; (case ogN => with_reducible assumption))
  | (refine' con_use (law_draw_p3 _ _ _ _ _ _ _ _ _ _ _ _ _ _ _ _ ?oghnu ?oghi ?oghns ?oghlen ?ogh0 ?ogh2 ?ogh4 ?ogh5 ?oghW) ?ogB ?ogF ?ogX ?ogN ?ogT ?ogkk ?ogd ?ogu ?_; (case ogN => with_reducible assumption))
  | (refine' con_use (law_draw_p4 _ _ _ _ _ _ _ _ _ _ _ _ _ _ _ _ _ ?oghnu ?oghi ?oghns ?oghlen ?ogh0 ?ogh2 ?ogh4 ?ogh5 ?oghW) ?ogB ?ogF ?ogX ?ogN ?ogT ?ogkk ?ogd ?ogu ?_; (case ogN => with_reducible assumption))
  | (refine' con_use (law_draw_any [] _ _ _ _ _ _ _ _ _ _ _ _ _ ?oghnu ?oghi ?oghns ?oghlen ?ogh0 ?ogh2 ?ogh4 ?ogh5 ?oghW) ?ogB ?ogF ?ogX ?ogN ?ogT ?ogkk ?ogd ?ogu ?_; (case ogN => k_asm))
  | (refine' con_use (law_draw_any [_] _ _ _ _ _ _ _ _ _ _ _ _ _ ?oghnu ?oghi ?oghns ?oghlen ?ogh0 ?ogh2 ?ogh4 ?ogh5 ?oghW) ?ogB ?ogF ?ogX ?ogN ?ogT ?ogkk ?ogd ?ogu ?_; (case ogN => k_asm))
  | (refine' con_use (law_draw_any [_, _] _ _ _ _ _ _ _ _ _ _ _ _ _ ?oghnu ?oghi ?oghns ?oghlen ?ogh0 ?ogh2 ?ogh4 ?ogh5 ?oghW) ?ogB ?ogF ?ogX ?ogN ?ogT ?ogkk ?ogd ?ogu ?_; (case ogN => k_asm))
  | (refine' con_use (law_draw_any [_, _, _] _ _ _ _ _ _ _ _ _ _ _ _ _ ?oghnu ?oghi ?oghns ?oghlen ?ogh0 ?ogh2 ?ogh4 ?ogh5 ?oghW) ?ogB ?ogF ?ogX ?ogN ?ogT ?ogkk ?ogd ?ogu ?_; (case ogN => k_asm))
  | (refine' con_use (law_draw_any [_, _, _, _] _ _ _ _ _ _ _ _ _ _ _ _ _ ?oghnu ?oghi ?oghns ?oghlen ?ogh0 ?ogh2 ?ogh4 ?ogh5 ?oghW) ?ogB ?ogF ?ogX ?ogN ?ogT ?ogkk ?ogd ?ogu ?_; (case ogN => k_asm))); k_dflt ((case oghnu => k_extra "OG mem"); (case oghi => assumption); (case oghns => assumption); (case oghlen => assumption); (case ogh0 => first | assumption | (constructor <;> omega)); (case ogh2 => assumption); (case ogh4 => omega); (case ogh5 => omega); (case oghW => k_extra "OG off"); k_extra "OG use"; k_whole); k_dflt (intro qqr9 qqnw9 qqh9 qqtk9 qqF9 qqN9 qqP9; obtain ⟨qqstir9, qqt94, qqt95, qqn9, qqx9, qqt96, qqe9, qqg9, qqe9', qqx91, qqx92⟩ := qqP9; subst qqe9; subst qqe9'; (try simp only [List.cons_append, List.nil_append] at qqN9)); (try dsimp only); (try k_fold))) | fail "no line"
  trivial

/-- the reader's state on the ledger -/
noncomputable def RdAt (P : Params) (a : Addr) (r : Rd) (dat rest led : Led) : Prop :=
  ∃ (dx Fa Pa : Addr) (t1 t2 t3 t4 t5 t6 tm tl : Tok) (fs ps : List Value) (vv : Value) (n1 n2 : Nat),
    led = (a, instObj 79 dx) :: (dx, dictOf (rdEnts P t1 t2 t3 t4 t5 t6 (.int r.most tm) (.int r.limit tl) (.ref Fa) (.ref Pa) vv (.bool r.begun)) 6) :: (Fa, listOf fs.toArray n1) :: (Pa, listOf ps.toArray n2) :: rest ∧
    ((@Ne Nat a dx) ∧ (@Ne Nat a Fa) ∧ (@Ne Nat a Pa) ∧ (@Ne Nat dx Fa) ∧ (@Ne Nat dx Pa) ∧ (@Ne Nat Fa Pa)) ∧
    (∀ p ∈ rest, p.1 ≠ a) ∧ (∀ p ∈ rest, p.1 ≠ dx) ∧ (∀ p ∈ rest, p.1 ≠ Fa) ∧ (∀ p ∈ rest, p.1 ≠ Pa) ∧
    (∀ p ∈ dat, p ∈ rest) ∧ DatAll dat fs (r.found.map rowD) ∧ DatAll dat ps (r.parts.map optD) ∧ DatIn dat vv (optD r.value)
structure RdOk (r : Rd) : Prop where
  m1 : 1 ≤ r.most
  m2 : r.most ≤ 100
  l1 : 0 ≤ r.limit
  l2 : r.limit ≤ 1000000
  f : (r.found.length : Int) ≤ r.most
  p : (r.parts.length : Int) ≤ r.most
  v : ∀ i, r.value = some i → 0 ≤ i ∧ i ≤ r.limit
noncomputable def rdFig (r : Rd) (o : Int) : Rd := { r with value := some (min r.limit (r.value.getD 0 * 10 + o - 48)), begun := true }
noncomputable def rdClosePart (r : Rd) : Rd := { r with parts := if (r.parts.length : Int) < r.most then r.parts ++ [r.value] else r.parts, value := none }
noncomputable def rdCloseParam (r : Rd) : Rd := { r with found := if (r.found.length : Int) < r.most then r.found ++ [r.parts] else r.found, parts := [] }
noncomputable def rdPut (r : Rd) (o : Int) : Rd :=
  if 48 ≤ o ∧ o ≤ 57 then rdFig r o else if o = 58 then { rdClosePart r with begun := true } else if o = 59 then { rdCloseParam (rdClosePart r) with begun := true } else r
noncomputable def rdTook (o : Int) : Bool := decide (48 ≤ o ∧ o ≤ 59)
theorem datInt {led : Led} {x y : Int} {t : Tok} (h : x = y) : DatIn led (.int x t) (optD (some y)) := by subst h; exact .int _ _
theorem rdClosePart_lt {r : Rd} (h : (r.parts.length : Int) < r.most) : rdClosePart r = { r with parts := r.parts ++ [r.value], value := none } := by unfold rdClosePart; rw [if_pos h]
theorem rdClosePart_ge {r : Rd} (h : ¬ (r.parts.length : Int) < r.most) : rdClosePart r = { r with value := none } := by unfold rdClosePart; rw [if_neg h]
theorem rdCloseParam_lt {r : Rd} (h : (r.found.length : Int) < r.most) : rdCloseParam r = { r with found := r.found ++ [r.parts], parts := [] } := by unfold rdCloseParam; rw [if_pos h]
theorem rdCloseParam_ge {r : Rd} (h : ¬ (r.found.length : Int) < r.most) : rdCloseParam r = { r with parts := [] } := by unfold rdCloseParam; rw [if_neg h]
theorem dall_snoc {α : Type} {f : α → Dat} {led : Led} {vs : List Value} {xs : List α} {v : Value} {x : α} (h : DatAll led vs (xs.map f)) (k : DatIn led v (f x)) : DatAll led (vs ++ [v]) ((xs ++ [x]).map f) := by
  rw [List.map_append]
  exact h.append (.one k)
theorem off_cons {a b : Addr} {o : Obj} {rest : Led} (h : @Ne Nat b a) (k : ∀ p ∈ rest, p.1 ≠ a) : ∀ p ∈ (b, o) :: rest, p.1 ≠ a := fun p hp => by
  rcases List.mem_cons.mp hp with rfl | hp
  · exact h
  · exact k p hp
theorem dat_more {a : Addr} {o : Obj} {dat rest : Led} (h : ∀ p ∈ rest, p.1 ≠ a) : ∀ p ∈ (a, o) :: dat, p ∈ dat ∨ ∀ q ∈ rest, q.1 ≠ p.1 := fun p hp => by
  rcases List.mem_cons.mp hp with rfl | hp
  · exact .inr h
  · exact .inl hp
theorem put_fig_con (P : Params) (a : Addr) (r : Rd) (dat rest news : Led) (o : Int) (to : Tok) (hr : RdAt P a r dat rest news) (hok : RdOk r) (h0 : 48 ≤ o) (h1 : o ≤ 57) :
    Con 3 57 news [.ref a, .int o to] (fun news' res => ∃ dat' rest', RdAt P a (rdFig r o) dat' rest' news' ∧ (∀ p ∈ rest, p ∈ rest') ∧ (∀ p ∈ dat', p ∈ dat ∨ ∀ q ∈ rest, q.1 ≠ p.1) ∧ res = .bool true) := by
  obtain ⟨dx, Fa, Pa, t1, t2, t3, t4, t5, t6, tm, tl, fs, ps, vv, n1, n2, rfl, ⟨d1, d2, d3, d4, d5, d6⟩, o1, o2, o3, o4, hdr, hf, hp, hv⟩ := hr
  obtain ⟨most, limit, found, parts, value, begun⟩ := r
  obtain ⟨m1, m2, l1, l2, hf2, hp2, hv2⟩ := hok
  dsimp only at *
  unfold Con
  w_top off
  k_fill
  intro w mean mg mb dp un gd cn cs a9 ccd cl outer A₀ base h₀ L m s Q E B F X N T hk hd hu hret
  rcases dat_opt hv with ⟨rfl, rfl⟩ | ⟨i, t, rfl, rfl⟩
  · refine wpAny_call ?_
    k_dflt (k_extra "OG enter")
    k_steps
    exact hret _ ((a, instObj 79 dx) :: (dx, dictOf (rdEnts P t1 t2 t3 t4 t5 t6 (.int most tm) (.int limit tl) (.ref Fa) (.ref Pa) (.int _ _) (.bool true)) 6) :: (Fa, listOf fs.toArray n1) :: (Pa, listOf ps.toArray n2) :: rest) _ _ (by k_asm) (news_sub (by k_asm) (by k_extra "OG sub"))
      ⟨dat, rest, ⟨dx, Fa, Pa, t1, t2, t3, t4, t5, t6, tm, tl, fs, ps, _, n1, n2, rfl, ⟨d1, d2, d3, d4, d5, d6⟩, o1, o2, o3, o4, hdr, hf, hp, datInt (by dsimp only [Option.getD]; omega)⟩, fun _ h => h, fun _ h => .inl h, rfl⟩
  · have hi := hv2 i rfl
    refine wpAny_call ?_
    k_dflt (k_extra "OG enter")
    k_steps
    exact hret _ ((a, instObj 79 dx) :: (dx, dictOf (rdEnts P t1 t2 t3 t4 t5 t6 (.int most tm) (.int limit tl) (.ref Fa) (.ref Pa) (.int _ _) (.bool true)) 6) :: (Fa, listOf fs.toArray n1) :: (Pa, listOf ps.toArray n2) :: rest) _ _ (by k_asm) (news_sub (by k_asm) (by k_extra "OG sub"))
      ⟨dat, rest, ⟨dx, Fa, Pa, t1, t2, t3, t4, t5, t6, tm, tl, fs, ps, _, n1, n2, rfl, ⟨d1, d2, d3, d4, d5, d6⟩, o1, o2, o3, o4, hdr, hf, hp, datInt (by dsimp only [Option.getD]; omega)⟩, fun _ h => h, fun _ h => .inl h, rfl⟩
theorem put_other_con (P : Params) (a : Addr) (r : Rd) (dat rest news : Led) (o : Int) (to : Tok) (hr : RdAt P a r dat rest news) (hok : RdOk r) (h0 : o < 48 ∨ 59 < o) :
    Con 3 57 news [.ref a, .int o to] (fun news' res => ∃ dat' rest', RdAt P a r dat' rest' news' ∧ (∀ p ∈ rest, p ∈ rest') ∧ (∀ p ∈ dat', p ∈ dat ∨ ∀ q ∈ rest, q.1 ≠ p.1) ∧ res = .bool false) := by
  have hr' := hr
  obtain ⟨dx, Fa, Pa, t1, t2, t3, t4, t5, t6, tm, tl, fs, ps, vv, n1, n2, rfl, ⟨d1, d2, d3, d4, d5, d6⟩, o1, o2, o3, o4, hdr, hf, hp, hv⟩ := hr
  obtain ⟨most, limit, found, parts, value, begun⟩ := r
  dsimp only at *
  unfold Con
  w_top off
  k_fill
  intro w mean mg mb dp un gd cn cs a9 ccd cl outer A₀ base h₀ L m s Q E B F X N T hk hd hu hret
  rcases h0 with h0 | h0
  all_goals (refine wpAny_call ?_)
  all_goals k_dflt (k_extra "OG enter")
  all_goals k_steps
  all_goals exact hret _ _ _ _ (by k_asm) (news_sub (by k_asm) sub_self) ⟨dat, rest, hr', fun _ h => h, fun _ h => .inl h, rfl⟩
theorem put_colon_con (P : Params) (a : Addr) (r : Rd) (dat rest news : Led) (to : Tok) (hr : RdAt P a r dat rest news) (hok : RdOk r) :
    Con 3 57 news [.ref a, .int 58 to] (fun news' res => ∃ dat' rest', RdAt P a { rdClosePart r with begun := true } dat' rest' news' ∧ (∀ p ∈ rest, p ∈ rest') ∧ (∀ p ∈ dat', p ∈ dat ∨ ∀ q ∈ rest, q.1 ≠ p.1) ∧ res = .bool true) := by
  obtain ⟨dx, Fa, Pa, t1, t2, t3, t4, t5, t6, tm, tl, fs, ps, vv, n1, n2, rfl, ⟨d1, d2, d3, d4, d5, d6⟩, o1, o2, o3, o4, hdr, hf, hp, hv⟩ := hr
  obtain ⟨most, limit, found, parts, value, begun⟩ := r
  obtain ⟨m1, m2, l1, l2, hf2, hp2, hv2⟩ := hok
  dsimp only at *
  have hpl := hp.length
  rw [List.length_map] at hpl
  unfold Con
  w_top off
  k_fill
  intro w mean mg mb dp un gd cn cs a9 ccd cl outer A₀ base h₀ L m s Q E B F X N T hk hd hu hret
  have hpm : (Pa, listOf ps.toArray n2) ∈ (Pa, listOf ps.toArray n2) :: rest := .head _
  have hp' := hp.mono (news' := (Pa, listOf ps.toArray n2) :: rest) (sub_tail hdr)
  refine wpAny_call ?_
  k_dflt (k_extra "OG enter")
  k_steps
  · refine hret _ ((a, instObj 79 dx) :: (dx, dictOf (rdEnts P t1 t2 t3 t4 t5 t6 (.int most tm) (.int limit tl) (.ref Fa) (.ref Pa) .none (.bool true)) 6) :: (Fa, listOf fs.toArray n1) :: (Pa, listOf (ps.toArray.push vv) (n2 + 1)) :: rest) _ _ (by k_asm) (news_sub (by k_asm) (by k_extra "OG sub"))
      ⟨dat, rest, ?_, fun _ h => h, fun _ h => .inl h, rfl⟩
    rw [List.push_toArray, rdClosePart_lt (by assumption)]
    exact ⟨dx, Fa, Pa, t1, t2, t3, t4, t5, t6, tm, tl, fs, ps ++ [vv], .none, n1, n2 + 1, rfl, ⟨d1, d2, d3, d4, d5, d6⟩, o1, o2, o3, o4, hdr, hf, dall_snoc hp hv, .none⟩
  · refine hret _ ((a, instObj 79 dx) :: (dx, dictOf (rdEnts P t1 t2 t3 t4 t5 t6 (.int most tm) (.int limit tl) (.ref Fa) (.ref Pa) .none (.bool true)) 6) :: (Fa, listOf fs.toArray n1) :: (Pa, listOf ps.toArray n2) :: rest) _ _ (by k_asm) (news_sub (by k_asm) (by k_extra "OG sub"))
      ⟨dat, rest, ?_, fun _ h => h, fun _ h => .inl h, rfl⟩
    rw [rdClosePart_ge (by assumption)]
    exact ⟨dx, Fa, Pa, t1, t2, t3, t4, t5, t6, tm, tl, fs, ps, .none, n1, n2, rfl, ⟨d1, d2, d3, d4, d5, d6⟩, o1, o2, o3, o4, hdr, hf, hp, .none⟩
theorem put_semi_con (P : Params) (a : Addr) (r : Rd) (dat rest news : Led) (to : Tok) (hr : RdAt P a r dat rest news) (hok : RdOk r) :
    Con 3 57 news [.ref a, .int 59 to] (fun news' res => ∃ dat' rest', RdAt P a { rdCloseParam (rdClosePart r) with begun := true } dat' rest' news' ∧ (∀ p ∈ rest, p ∈ rest') ∧ (∀ p ∈ dat', p ∈ dat ∨ ∀ q ∈ rest, q.1 ≠ p.1) ∧ res = .bool true) := by
  obtain ⟨dx, Fa, Pa, t1, t2, t3, t4, t5, t6, tm, tl, fs, ps, vv, n1, n2, rfl, ⟨d1, d2, d3, d4, d5, d6⟩, o1, o2, o3, o4, hdr, hf, hp, hv⟩ := hr
  obtain ⟨most, limit, found, parts, value, begun⟩ := r
  obtain ⟨m1, m2, l1, l2, hf2, hp2, hv2⟩ := hok
  dsimp only at *
  have hpl := hp.length
  rw [List.length_map] at hpl
  have hfl := hf.length
  rw [List.length_map] at hfl
  unfold Con
  w_top off
  k_fill
  intro w mean mg mb dp un gd cn cs a9 ccd cl outer A₀ base h₀ L m s Q E B F X N T hk hd hu hret
  have hpm : (Pa, listOf ps.toArray n2) ∈ (Pa, listOf ps.toArray n2) :: rest := .head _
  have hp' := hp.mono (news' := (Pa, listOf ps.toArray n2) :: rest) (sub_tail hdr)
  have hfm : (Fa, listOf fs.toArray n1) ∈ (Fa, listOf fs.toArray n1) :: rest := .head _
  have hf' := hf.mono (news' := (Fa, listOf fs.toArray n1) :: rest) (sub_tail hdr)
  refine wpAny_call ?_
  k_dflt (k_extra "OG enter")
  k_steps
  · refine hret _ ((a, instObj 79 dx) :: (dx, dictOf (rdEnts P t1 t2 t3 t4 t5 t6 (.int most tm) (.int limit tl) (.ref Fa) (.ref _) .none (.bool true)) 6) :: (Fa, listOf (fs.toArray.push (.ref Pa)) (n1 + 1)) :: (_, listOf #[] 0) :: (Pa, listOf (ps.toArray.push vv) (n2 + 1)) :: rest) _ _ (by k_asm) (news_sub (by k_asm) (by k_extra "OG sub")) ⟨(Pa, listOf (ps.toArray.push vv) (n2 + 1)) :: dat, (Pa, listOf (ps.toArray.push vv) (n2 + 1)) :: rest, ?_, sub_tail_self, dat_more o4, rfl⟩
    rw [List.push_toArray, List.push_toArray, rdClosePart_lt (by assumption), rdCloseParam_lt (by assumption)]
    have l19 := (by assumption : _ ∧ _ ∧ _ ∧ _ ∧ AllLt _ rest)
    exact ⟨dx, Fa, _, t1, t2, t3, t4, t5, t6, tm, tl, _, [], .none, _, 0, rfl, ⟨d1, d2, Nat.ne_of_lt l19.1, d4, Nat.ne_of_lt l19.2.1, Nat.ne_of_lt l19.2.2.1⟩, (off_cons d3.symm o1), (off_cons d5.symm o2), (off_cons d6.symm o3), off_cons (Nat.ne_of_lt l19.2.2.2.1) (fun p hp => Nat.ne_of_lt (allLt_of' l19.2.2.2.2 p hp)), sub_cons (.head _) (sub_tail hdr), dall_snoc (hf.mono sub_tail_self) (DatIn.list (.head _) (DatAll.mono sub_tail_self (dall_snoc hp hv))), .nil, .none⟩
  · refine hret _ ((a, instObj 79 dx) :: (dx, dictOf (rdEnts P t1 t2 t3 t4 t5 t6 (.int most tm) (.int limit tl) (.ref Fa) (.ref _) .none (.bool true)) 6) :: (Fa, listOf fs.toArray n1) :: (_, listOf #[] 0) :: rest) _ _ (by k_asm) (news_sub (by k_asm) (by k_extra "OG sub")) ⟨dat, rest, ?_, fun _ h => h, fun _ h => .inl h, rfl⟩
    rw [rdClosePart_lt (by assumption), rdCloseParam_ge (by assumption)]
    have l19 := (by assumption : _ ∧ _ ∧ _ ∧ _ ∧ AllLt _ rest)
    exact ⟨dx, Fa, _, t1, t2, t3, t4, t5, t6, tm, tl, _, [], .none, _, 0, rfl, ⟨d1, d2, Nat.ne_of_lt l19.1, d4, Nat.ne_of_lt l19.2.1, Nat.ne_of_lt l19.2.2.1⟩, o1, o2, o3, fun p hp => Nat.ne_of_lt (allLt_of' l19.2.2.2.2 p hp), hdr, hf, .nil, .none⟩
  · refine hret _ ((a, instObj 79 dx) :: (dx, dictOf (rdEnts P t1 t2 t3 t4 t5 t6 (.int most tm) (.int limit tl) (.ref Fa) (.ref _) .none (.bool true)) 6) :: (Fa, listOf (fs.toArray.push (.ref Pa)) (n1 + 1)) :: (_, listOf #[] 0) :: (Pa, listOf ps.toArray n2) :: rest) _ _ (by k_asm) (news_sub (by k_asm) (by k_extra "OG sub")) ⟨(Pa, listOf ps.toArray n2) :: dat, (Pa, listOf ps.toArray n2) :: rest, ?_, sub_tail_self, dat_more o4, rfl⟩
    rw [List.push_toArray, rdClosePart_ge (by assumption), rdCloseParam_lt (by assumption)]
    have l19 := (by assumption : _ ∧ _ ∧ _ ∧ _ ∧ AllLt _ rest)
    exact ⟨dx, Fa, _, t1, t2, t3, t4, t5, t6, tm, tl, _, [], .none, _, 0, rfl, ⟨d1, d2, Nat.ne_of_lt l19.1, d4, Nat.ne_of_lt l19.2.1, Nat.ne_of_lt l19.2.2.1⟩, (off_cons d3.symm o1), (off_cons d5.symm o2), (off_cons d6.symm o3), off_cons (Nat.ne_of_lt l19.2.2.2.1) (fun p hp => Nat.ne_of_lt (allLt_of' l19.2.2.2.2 p hp)), sub_cons (.head _) (sub_tail hdr), dall_snoc (hf.mono sub_tail_self) (DatIn.list (.head _) (DatAll.mono sub_tail_self hp)), .nil, .none⟩
  · refine hret _ ((a, instObj 79 dx) :: (dx, dictOf (rdEnts P t1 t2 t3 t4 t5 t6 (.int most tm) (.int limit tl) (.ref Fa) (.ref _) .none (.bool true)) 6) :: (Fa, listOf fs.toArray n1) :: (_, listOf #[] 0) :: rest) _ _ (by k_asm) (news_sub (by k_asm) (by k_extra "OG sub")) ⟨dat, rest, ?_, fun _ h => h, fun _ h => .inl h, rfl⟩
    rw [rdClosePart_ge (by assumption), rdCloseParam_ge (by assumption)]
    have l19 := (by assumption : _ ∧ _ ∧ _ ∧ _ ∧ AllLt _ rest)
    exact ⟨dx, Fa, _, t1, t2, t3, t4, t5, t6, tm, tl, _, [], .none, _, 0, rfl, ⟨d1, d2, Nat.ne_of_lt l19.1, d4, Nat.ne_of_lt l19.2.1, Nat.ne_of_lt l19.2.2.1⟩, o1, o2, o3, fun p hp => Nat.ne_of_lt (allLt_of' l19.2.2.2.2 p hp), hdr, hf, .nil, .none⟩
theorem put_con (P : Params) (a : Addr) (r : Rd) (dat rest news : Led) (o : Int) (to : Tok) (hr : RdAt P a r dat rest news) (hok : RdOk r) :
    Con 3 57 news [.ref a, .int o to] (fun news' res => ∃ dat' rest', RdAt P a (rdPut r o) dat' rest' news' ∧ (∀ p ∈ rest, p ∈ rest') ∧ (∀ p ∈ dat', p ∈ dat ∨ ∀ q ∈ rest, q.1 ≠ p.1) ∧ res = .bool (rdTook o)) := by
  by_cases h1 : 48 ≤ o ∧ o ≤ 57
  · rw [rdPut, if_pos h1, show rdTook o = true from decide_eq_true (by omega)]
    exact put_fig_con P a r dat rest news o to hr hok h1.1 h1.2
  · by_cases h2 : o = 58
    · subst h2
      rw [rdPut, if_neg h1, if_pos rfl, show rdTook 58 = true from decide_eq_true (by omega)]
      exact put_colon_con P a r dat rest news to hr hok
    · by_cases h3 : o = 59
      · subst h3
        rw [rdPut, if_neg h1, if_neg h2, if_pos rfl, show rdTook 59 = true from decide_eq_true (by omega)]
        exact put_semi_con P a r dat rest news to hr hok
      · rw [rdPut, if_neg h1, if_neg h2, if_neg h3, show rdTook o = false from decide_eq_false (by omega)]
        exact put_other_con P a r dat rest news o to hr hok (by omega)
theorem rdPut_ok {r : Rd} {o : Int} (h : RdOk r) : RdOk (rdPut r o) := by
  obtain ⟨m1, m2, l1, l2, hf, hp, hv⟩ := h
  unfold rdPut
  split
  · rename_i ho
    refine ⟨m1, m2, l1, l2, hf, hp, fun i e => ?_⟩
    have e' := Option.some.inj e
    cases hq : r.value with
    | none => rw [hq] at e'; simp only [Option.getD] at e'; show 0 ≤ i ∧ i ≤ r.limit; omega
    | some j => rw [hq] at e'; have := hv j hq; simp only [Option.getD] at e'; show 0 ≤ i ∧ i ≤ r.limit; omega
  · split
    · refine ⟨m1, m2, l1, l2, hf, ?_, fun i e => by cases e⟩
      show ((rdClosePart r).parts.length : Int) ≤ r.most
      by_cases q : (r.parts.length : Int) < r.most
      · rw [rdClosePart_lt q]; simp only [List.length_append, List.length_singleton]; omega
      · rw [rdClosePart_ge q]; exact hp
    · split
      · refine ⟨m1, m2, l1, l2, ?_, ?_, fun i e => by cases e⟩
        · show ((rdCloseParam (rdClosePart r)).found.length : Int) ≤ r.most
          have e : (rdClosePart r).found = r.found := rfl
          have e2 : (rdClosePart r).most = r.most := rfl
          by_cases q : (r.found.length : Int) < r.most
          · rw [rdCloseParam_lt (r := rdClosePart r) (by rw [e, e2]; exact q)]; simp only [List.length_append, List.length_singleton, e]; omega
          · rw [rdCloseParam_ge (r := rdClosePart r) (by rw [e, e2]; exact q)]; exact hf
        · show (([] : List (Option Int)).length : Int) ≤ r.most
          simp; omega
      · exact ⟨m1, m2, l1, l2, hf, hp, hv⟩
theorem lines_f17 : True := by
  k_with "call ref" => first | ((k_here; (with_reducible show wpAny _ _ (call (Value.ref 57) _ _) _ _ _); k_dflt (refine' con_use (put_con _ _ _ _ _ _ _ _ ?oghr ?ogho) ?ogB ?ogF ?ogX ?ogN ?ogT ?ogkk ?ogd ?ogu ?_; (case ogN => k_asm); (case oghr => assumption); (case ogho => assumption); k_extra "OG use"; k_whole); k_dflt (intro qqr9 qqnw9 qqh9 qqtk9 qqF9 qqN9 qqP9; obtain ⟨qqdat9, qqrest9, qqhR9, qqhs9, qqhd9, qqe9'⟩ := qqP9; subst qqe9'); (try dsimp only); (try k_fold))) | fail "no line"
  trivial

noncomputable def rdParts (r : Rd) : List (Option Int) := if (r.parts.length : Int) < r.most then r.parts ++ [r.value] else r.parts
noncomputable def rdParams (r : Rd) : List (List (Option Int)) := if r.begun = false then [] else if (r.found.length : Int) < r.most then r.found ++ [rdParts r] else r.found
theorem par_fin1 {h₀ h : Heap} {L D D1 : Addr} {news tl : Led} {ys qs : List Value} {o o1 : Obj} {kn kq : Nat} {found : List (List (Option Int))} {part : List (Option Int)} {r : List (List (Option Int))}
    (N : News h₀ L h ((D, o) :: ((D1, o1) :: (news ++ tl)))) (ho : o = listOf (ys ++ [Value.ref D1]).toArray kn) (ho1 : o1 = listOf qs.toArray kq) (hr : r = found ++ [part])
    (ha : Apart ((D1, o1) :: news) tl) (hc : ∀ q ∈ news, q.1 ≠ D1) (of : LCg.Off1 D ((D1, o1) :: (news ++ tl))) (hd : DatAll ((D1, o1) :: (news ++ tl)) ys (found.map rowD)) (hq : DatAll news qs (part.map optD)) :
    ∃ nw, News h₀ L h nw ∧ Grown news (rowsD r) nw (.ref D) := by
  subst ho ho1 hr
  refine grown_comp1 N ha hc of ?_
  exact dall_snoc hd (DatIn.list (.head _) (hq.mono fun p hp => .tail _ (List.mem_append_left _ hp)))
theorem par_fin2 {h₀ h : Heap} {L D D1 : Addr} {news tl : Led} {ys : List Value} {o o1 : Obj} {kn : Nat} {found : List (List (Option Int))} {r : List (List (Option Int))}
    (N : News h₀ L h ((D, o) :: ((D1, o1) :: (news ++ tl)))) (ho : o = listOf ys.toArray kn) (hr : r = found)
    (ha : Apart ((D1, o1) :: news) tl) (hc : ∀ q ∈ news, q.1 ≠ D1) (of : LCg.Off1 D ((D1, o1) :: (news ++ tl))) (hd : DatAll ((D1, o1) :: (news ++ tl)) ys (found.map rowD)) :
    ∃ nw, News h₀ L h nw ∧ Grown news (rowsD r) nw (.ref D) := by
  subst ho hr
  exact grown_comp1 N ha hc of hd
theorem params_con (P : Params) (a : Addr) (r : Rd) (dat rest news : Led) (hr : RdAt P a r dat rest news) (hok : RdOk r) (hrl : ∀ x ∈ r.found, x.length ≤ 100) :
    Con 2 76 news [.ref a] (Grown news (rowsD (rdParams r))) := by
  obtain ⟨dx, Fa, Pa, t1, t2, t3, t4, t5, t6, tm, tl, fs, ps, vv, n1, n2, rfl, ⟨d1, d2, d3, d4, d5, d6⟩, o1, o2, o3, o4, hdr, hf, hp, hv⟩ := hr
  obtain ⟨most, limit, found, parts, value, begun⟩ := r
  obtain ⟨m1, m2, l1, l2, hf2, hp2, hv2⟩ := hok
  dsimp only at *
  have hpl := hp.length
  rw [List.length_map] at hpl
  have hfl := hf.length
  rw [List.length_map] at hfl
  unfold Con
  w_top off
  k_fill
  intro w mean mg mb dp un gd cn cs a9 ccd cl outer A₀ base h₀ L m s Q E B F X N T hk hd hu hret
  have hpm : (Pa, listOf ps.toArray n2) ∈ (Pa, listOf ps.toArray n2) :: rest := .head _
  have hp' := hp.mono (news' := (Pa, listOf ps.toArray n2) :: rest) (sub_tail hdr)
  have hfm : (Fa, listOf fs.toArray n1) ∈ (Fa, listOf fs.toArray n1) :: rest := .head _
  have hf' := hf.mono (news' := (Fa, listOf fs.toArray n1) :: rest) (sub_tail hdr)
  cases begun
  · refine wpAny_call ?_
    k_dflt (k_extra "OG enter")
    k_steps
    have l19 := (by assumption : _ ∧ _ ∧ _ ∧ _ ∧ AllLt _ rest)
    obtain ⟨N8, G8⟩ := grown_mk (d := rowsD []) (r := .ref _) (nwD := [(_, listOf #[] 0)]) (news := (a, instObj 79 dx) :: (dx, dictOf (rdEnts P t1 t2 t3 t4 t5 t6 (.int most tm) (.int limit tl) (.ref Fa) (.ref Pa) vv (.bool false)) 6) :: (Fa, listOf fs.toArray n1) :: (Pa, listOf ps.toArray n2) :: rest) [(_, listOf #[] 0)] (by assumption) (by k_extra "OG sub")
      (apart_one (Nat.ne_of_gt l19.1) (apart_more (Nat.ne_of_gt l19.2.1) (apart_more (Nat.ne_of_gt l19.2.2.1) (apart_more (Nat.ne_of_gt l19.2.2.2.1) (apart_rest l19.2.2.2.2))))) (DatIn.list (vs := []) (.head _) .nil) (by k_extra "OG sub")
    exact hret _ _ _ _ (by k_asm) N8 G8
  · refine wpAny_call ?_
    k_dflt (k_extra "OG enter")
    k_steps
    all_goals
      have l19 := (by assumption : _ ∧ _ ∧ _ ∧ _ ∧ AllLt _ rest)
      have hq9 := hp.mono (news' := (a, instObj 79 dx) :: (dx, dictOf (rdEnts P t1 t2 t3 t4 t5 t6 (.int most tm) (.int limit tl) (.ref Fa) (.ref Pa) vv (.bool true)) 6) :: (Fa, listOf fs.toArray n1) :: (Pa, listOf ps.toArray n2) :: rest) (sub_tail (sub_tail (sub_tail (sub_tail hdr))))
      have hv9 := hv.mono (news' := (a, instObj 79 dx) :: (dx, dictOf (rdEnts P t1 t2 t3 t4 t5 t6 (.int most tm) (.int limit tl) (.ref Fa) (.ref Pa) vv (.bool true)) 6) :: (Fa, listOf fs.toArray n1) :: (Pa, listOf ps.toArray n2) :: rest) (sub_tail (sub_tail (sub_tail (sub_tail hdr))))
      refine Stop.mk (og_src_list (f := rowD) (g := rowD) hfm hf' (by rfl) (by k_asm) (by k_asm) (by k_extra "OG sub") (by omega) ?t9 ?f9)
      case t9 =>
        intro i y v I oI C oC D oD m₂ tl h8 tk8 E' hy hv hC hx F8 N8 off ha ne
        have hyl := hrl y (List.mem_of_getElem? hy)
        obtain ⟨b, vs, n, rfl, hb, hvs⟩ := dat_list hv
        k_steps
        exact Stop.mk (cturn1 (by k_asm) (by k_asm) (by assumption) (DatIn.list (List.mem_append_right _ (.head _)) (DatAll.mono (by k_extra "OG sub") hvs)))
      case f9 =>
        intro h1 ys tl9 ha hy hd8
        k_steps
        all_goals
          have hc9 : ∀ q ∈ (a, instObj 79 dx) :: (dx, dictOf (rdEnts P t1 t2 t3 t4 t5 t6 (.int most tm) (.int limit tl) (.ref Fa) (.ref Pa) vv (.bool true)) 6) :: (Fa, listOf fs.toArray n1) :: (Pa, listOf ps.toArray n2) :: rest, q.1 ≠ _ := fun q hq => (apart_more (Nat.ne_of_gt l19.1) (apart_more (Nat.ne_of_gt l19.2.1) (apart_more (Nat.ne_of_gt l19.2.2.1) (apart_more (Nat.ne_of_gt l19.2.2.2.1) (apart_rest l19.2.2.2.2)))) q hq).symm
          first
          | exact Exists.elim (par_fin1 (qs := ps ++ [vv]) (part := parts ++ [value]) (r := rdParams ⟨most, limit, found, parts, value, true⟩) (by assumption) (by first | rfl | rw [List.push_toArray]) (by first | rfl | rw [List.push_toArray]) (by simp only [rdParams, rdParts]; rw [if_neg (by decide), if_pos (by assumption), if_pos (by assumption)]) ha hc9 (by assumption) hd8 (dall_snoc hq9 hv9)) fun nw8 NG => hret _ _ _ _ (by k_asm) NG.1 NG.2
          | exact Exists.elim (par_fin1 (qs := ps) (part := parts) (r := rdParams ⟨most, limit, found, parts, value, true⟩) (by assumption) (by first | rfl | rw [List.push_toArray]) (by first | rfl | rw [List.push_toArray]) (by simp only [rdParams, rdParts]; rw [if_neg (by decide), if_pos (by assumption), if_neg (by omega)]) ha hc9 (by assumption) hd8 hq9) fun nw8 NG => hret _ _ _ _ (by k_asm) NG.1 NG.2
          | exact Exists.elim (par_fin2 (r := rdParams ⟨most, limit, found, parts, value, true⟩) (by assumption) (by first | rfl | rw [List.push_toArray]) (by simp only [rdParams, rdParts]; rw [if_neg (by decide), if_neg (by omega)]) ha hc9 (by assumption) hd8) fun nw8 NG => hret _ _ _ _ (by k_asm) NG.1 NG.2
theorem lines_f18 : True := by
  k_with "call ref" => first | ((k_here; (with_reducible show wpAny _ _ (call (Value.ref 76) _ _) _ _ _); k_dflt (refine' con_use (params_con _ _ _ _ _ _ ?oghr ?ogho ?oghl) ?ogB ?ogF ?ogX ?ogN ?ogT ?ogkk ?ogd ?ogu ?_; (case ogN => k_asm); (case oghr => assumption); (case ogho => assumption); (case oghl => first | assumption | exact rdFold_rows (by assumption) _); k_extra "OG use"; k_whole); k_dflt (intro qqr9 qqnw9 qqh9 qqtk9 qqF9 qqN9 qqP9; obtain ⟨qqtl9, qqe9, qqha9, qqhd9⟩ := qqP9; subst qqe9; obtain ⟨qqb9, qqvs9, qqn9, qqe9', qqhm9, qqhv9⟩ := dat_list qqhd9; subst qqe9'); (try dsimp only); (try k_fold))) | fail "no line"
  trivial

noncomputable def rd0 (most limit : Int) : Rd := ⟨most, limit, [], [], none, false⟩
theorem reader_new_con (most limit : Int) (tm tl : Tok) (news : Led) :
    Con 4 79 news [.int most tm, .int limit tl] (fun news' r => ∃ a P, r = .ref a ∧ RdAt P a (rd0 most limit) [] news news') := by
  unfold Con
  w_top off
  k_fill
  intro w mean mg mb dp un gd cn cs a9 ccd cl outer A₀ base h₀ L m s Q E B F X N T hk hd hu hret
  k_dflt (refine' call_cls ?k1 ?k2 ?k3 ?k4 ?k5 ?k6 ?_; (case k1 => k_asm); (case k2 => k_asm); (case k3 => k_asm); (case k4 => k_is); (case k5 => k_is); (case k6 => k_is); k_whole; intro x' d' h' F' N' l1 l2; (try k_lt l1); (try k_lt2 l2); (try k_sweep); refine' code_def ?k1 ?k2 ?k3 ?k4 ?k5 ?kA ?kF ?kK ?k6 ?k7 ?k8 ?k9 ?kB ?_ ?c2 ?c3 ?c4 ?c5; (case kA => exact rfl); (case kF => exact rfl); (case kK => first | exact rfl | assumption); (case k1 => k_asm); (case k2 => k_asm); (case k3 => k_asm); (case k4 => k_asm); (case k5 => k_asm); (case k6 => k_is); (case k7 => k_is); (case k8 => k_room); (case k9 => first | exact BindsTo.of_eq rfl | exact binds_K (by k_in) rfl (by k_is) rfl rfl rfl); (case c5 => decide); (case kB => exact locs rfl); (case c2 => exact rfl); (case c3 => exact rfl); (case c4 => exact rfl); k_whole; intro g' L' h' FG' F' N' B' X' T'; (try dsimp only); (try k_lift B'); (try k_fold))
  k_steps
  have l19 := (by assumption : _ ∧ _ ∧ AllLt _ news)
  have l18 := (by assumption : _ ∧ _ ∧ _ ∧ AllLt _ news)
  refine hret _ _ _ _ (by k_asm) (news_sub (by k_asm) (by k_extra "OG sub")) ⟨_, _, rfl, _, _, _, _, _, _, _, _, _, _, _, [], [], .none, 0, 0, rfl, ⟨?_, ?_, ?_, ?_, ?_, ?_⟩, ?_, ?_, ?_, ?_, sub_nil, .nil, .nil, .none⟩
  · exact Nat.ne_of_gt l2
  · exact Nat.ne_of_lt l19.1
  · exact Nat.ne_of_lt l18.2.1
  · exact Nat.ne_of_lt l19.2.1
  · exact Nat.ne_of_lt l18.2.2.1
  · exact Nat.ne_of_lt l18.1
  · exact fun p hp => Nat.ne_of_lt (Nat.lt_trans (l1 p hp) l2)
  · exact fun p hp => Nat.ne_of_lt (l1 p hp)
  · exact fun p hp => Nat.ne_of_lt (allLt_of' l19.2.2 p hp)
  · exact fun p hp => Nat.ne_of_lt (allLt_of' l18.2.2.2 p hp)
theorem lines_f19 : True := by
  k_with "call ref" => first | ((k_here; (with_reducible show wpAny _ _ (call (Value.ref 79) _ _) _ _ _); k_dflt (refine' con_use (reader_new_con _ _ _ _ _) ?ogB ?ogF ?ogX ?ogN ?ogT ?ogkk ?ogd ?ogu ?_; (case ogN => k_asm); k_extra "OG use"; k_whole); k_dflt (intro qqr9 qqnw9 qqh9 qqtk9 qqF9 qqN9 qqP9; obtain ⟨qqa9, qqP9, qqe9', qqhR9⟩ := qqP9; subst qqe9'); (try dsimp only); (try k_fold))) | fail "no line"
  trivial

theorem rdAt_own {P : Params} {a : Addr} {r : Rd} {dat rest led own : Led} (h : RdAt P a r dat rest led) (ho : OwnOff own (led.map (·.1))) : RdAt P a r dat (rest ++ own) (led ++ own) := by
  obtain ⟨dx, Fa, Pa, t1, t2, t3, t4, t5, t6, tm, tl, fs, ps, vv, n1, n2, rfl, ⟨d1, d2, d3, d4, d5, d6⟩, o1, o2, o3, o4, hdr, hf, hp, hv⟩ := h
  have off : ∀ {x : Addr}, x ∈ ((a, instObj 79 dx) :: (dx, dictOf (rdEnts P t1 t2 t3 t4 t5 t6 (.int r.most tm) (.int r.limit tl) (.ref Fa) (.ref Pa) vv (.bool r.begun)) 6) :: (Fa, listOf fs.toArray n1) :: (Pa, listOf ps.toArray n2) :: rest).map (·.1) → (∀ p ∈ rest, p.1 ≠ x) → ∀ p ∈ rest ++ own, p.1 ≠ x := fun hx h p hp => (List.mem_append.mp hp).elim (h p) fun hp => ho p hp _ hx
  exact ⟨dx, Fa, Pa, t1, t2, t3, t4, t5, t6, tm, tl, fs, ps, vv, n1, n2, rfl, ⟨d1, d2, d3, d4, d5, d6⟩, off (.head _) o1, off (.tail _ (.head _)) o2, off (.tail _ (.tail _ (.head _))) o3, off (.tail _ (.tail _ (.tail _ (.head _)))) o4, sub_left hdr, hf, hp, hv⟩
/-- the reader's four things -/
theorem rdAt_next {P : Params} {a : Addr} {r : Rd} {dat dat0 rest rest0 led news own : Led} (h : RdAt P a r dat rest led) (hn : ∀ p ∈ news ++ own, p ∈ rest) (hd : ∀ p ∈ dat, p ∈ dat0 ∨ ∀ q ∈ rest0, q.1 ≠ p.1) (hr0 : ∀ p ∈ own, p ∈ rest0)
    (h0 : OwnOff own (dat0.map (·.1))) (h1 : OwnOff own (news.map (·.1))) : ∃ led2, RdAt P a r dat (dat ++ news) led2 ∧ (∀ p ∈ led2 ++ own, p ∈ led) ∧ OwnOff own (led2.map (·.1)) := by
  obtain ⟨dx, Fa, Pa, t1, t2, t3, t4, t5, t6, tm, tl, fs, ps, vv, n1, n2, rfl, ⟨d1, d2, d3, d4, d5, d6⟩, o1, o2, o3, o4, hdr, hf, hp, hv⟩ := h
  have sb : ∀ p ∈ dat ++ news, p ∈ rest := fun p hp => (List.mem_append.mp hp).elim (hdr p) fun h => hn p (List.mem_append_left _ h)
  refine ⟨(a, instObj 79 dx) :: (dx, dictOf (rdEnts P t1 t2 t3 t4 t5 t6 (.int r.most tm) (.int r.limit tl) (.ref Fa) (.ref Pa) vv (.bool r.begun)) 6) :: (Fa, listOf fs.toArray n1) :: (Pa, listOf ps.toArray n2) :: (dat ++ news),
    ⟨dx, Fa, Pa, t1, t2, t3, t4, t5, t6, tm, tl, fs, ps, vv, n1, n2, rfl, ⟨d1, d2, d3, d4, d5, d6⟩, fun p hp => o1 p (sb p hp), fun p hp => o2 p (sb p hp), fun p hp => o3 p (sb p hp), fun p hp => o4 p (sb p hp), fun p hp => List.mem_append_left _ hp, hf, hp, hv⟩, ?_, ?_⟩
  · intro p hp
    rcases List.mem_append.mp hp with hp | hp
    · simp only [List.mem_cons] at hp ⊢
      rcases hp with hp | hp | hp | hp | hp
      · exact .inl hp
      · exact .inr (.inl hp)
      · exact .inr (.inr (.inl hp))
      · exact .inr (.inr (.inr (.inl hp)))
      · exact .inr (.inr (.inr (.inr (sb p hp))))
    · exact .tail _ (.tail _ (.tail _ (.tail _ (hn p (List.mem_append_right _ hp)))))
  · intro p hp b hb
    have hpr := hn p (List.mem_append_right _ hp)
    simp only [List.map_cons, List.mem_cons, List.map_append, List.mem_append] at hb
    rcases hb with rfl | rfl | rfl | rfl | hb | hb
    · exact o1 p hpr
    · exact o2 p hpr
    · exact o3 p hpr
    · exact o4 p hpr
    · obtain ⟨q, hq, rfl⟩ := List.mem_map.mp hb
      rcases hd q hq with h | h
      · exact h0 p hp _ (List.mem_map_of_mem h)
      · exact h p (hr0 p hp)
    · exact h1 p hp _ hb
noncomputable def rdFold (most limit : Int) (b : List UInt8) : Rd := b.foldl (fun r k => rdPut r (k.toNat : Int)) (rd0 most limit)
noncomputable def readR (most limit : Int) (b : List UInt8) : List (List (Option Int)) := rdParams (rdFold most limit b)
theorem rd0_ok {most limit : Int} (h1 : 1 ≤ most) (h2 : most ≤ 100) (h3 : 0 ≤ limit) (h4 : limit ≤ 1000000) : RdOk (rd0 most limit) := ⟨h1, h2, h3, h4, by show ((0 : Nat) : Int) ≤ most; omega, by show ((0 : Nat) : Int) ≤ most; omega, fun _ e => by cases e⟩
theorem rdFold_snoc (most limit : Int) (b : List UInt8) (k : UInt8) : rdFold most limit (b ++ [k]) = rdPut (rdFold most limit b) (k.toNat : Int) := by
  unfold rdFold; rw [List.foldl_append]; rfl
theorem rdFold_ok {most limit : Int} (h : RdOk (rd0 most limit)) : ∀ (b : List UInt8), RdOk (rdFold most limit b) := by
  intro b
  unfold rdFold
  generalize rd0 most limit = r at h
  induction b generalizing r with
  | nil => exact h
  | cons k b ih => exact ih _ (rdPut_ok h)
/-- no parameter has more than `most` parts -/
theorem rdPut_rows {r : Rd} {o : Int} (hp : (r.parts.length : Int) ≤ r.most) (h : ∀ x ∈ r.found, (x.length : Int) ≤ r.most) : ∀ x ∈ (rdPut r o).found, (x.length : Int) ≤ (rdPut r o).most := by
  unfold rdPut
  split
  · exact h
  · split
    · exact h
    · split
      · intro x hx
        show (x.length : Int) ≤ r.most
        have e : (rdClosePart r).found = r.found := rfl
        have e2 : (rdClosePart r).most = r.most := rfl
        have hp' : ((rdClosePart r).parts.length : Int) ≤ r.most := by
          by_cases q : (r.parts.length : Int) < r.most
          · rw [rdClosePart_lt q]; simp only [List.length_append, List.length_singleton]; omega
          · rw [rdClosePart_ge q]; exact hp
        by_cases q : ((rdClosePart r).found.length : Int) < (rdClosePart r).most
        · rw [rdCloseParam_lt q] at hx
          rcases List.mem_append.mp hx with hx | hx
          · exact h x hx
          · rw [List.mem_singleton.mp hx]; exact hp'
        · rw [rdCloseParam_ge q] at hx
          exact h x hx
      · exact h
theorem rdPut_most (r : Rd) (o : Int) : (rdPut r o).most = r.most := by
  unfold rdPut
  split
  · rfl
  · split
    · rfl
    · split <;> rfl
theorem rdFold_rows {most limit : Int} (h : RdOk (rd0 most limit)) : ∀ (b : List UInt8), ∀ x ∈ (rdFold most limit b).found, x.length ≤ 100 := by
  intro b
  have key : ∀ (b : List UInt8) (r : Rd), RdOk r → (∀ x ∈ r.found, (x.length : Int) ≤ r.most) → ∀ x ∈ (b.foldl (fun r k => rdPut r (k.toNat : Int)) r).found, x.length ≤ 100 := by
    intro b
    induction b with
    | nil => intro r ok hr x hx; have := hr x hx; have := ok.m2; omega
    | cons k b ih => intro r ok hr; exact ih _ (rdPut_ok ok) (rdPut_rows ok.p hr)
  exact key b _ h fun x hx => nomatch hx
theorem read_apart {x1 x2 x3 x4 : Addr × Obj} {dat news tl : Led} (o1 : ∀ p ∈ dat ++ news, p.1 ≠ x1.1) (o2 : ∀ p ∈ dat ++ news, p.1 ≠ x2.1) (o3 : ∀ p ∈ dat ++ news, p.1 ≠ x3.1) (o4 : ∀ p ∈ dat ++ news, p.1 ≠ x4.1) (hA : ∀ p ∈ dat, ∀ q ∈ news, q.1 ≠ p.1)
    (ha : Apart (x1 :: x2 :: x3 :: x4 :: (dat ++ news)) tl) : Apart news (x1 :: x2 :: x3 :: x4 :: (dat ++ tl)) := fun p hp q hq => by
  simp only [List.mem_cons, List.mem_append] at hp
  rcases hp with rfl | rfl | rfl | rfl | hp | hp
  · exact (o1 q (List.mem_append_right _ hq)).symm
  · exact (o2 q (List.mem_append_right _ hq)).symm
  · exact (o3 q (List.mem_append_right _ hq)).symm
  · exact (o4 q (List.mem_append_right _ hq)).symm
  · exact (hA p hp q hq).symm
  · exact ha p hp q (.tail _ (.tail _ (.tail _ (.tail _ (List.mem_append_right _ hq)))))
theorem read_params_con (news : Led) (b : Array UInt8) (tb : Tok) (most limit : Int) (tm tl : Tok) (h1 : 1 ≤ most) (h2 : most ≤ 100) (h3 : 0 ≤ limit) (h4 : limit ≤ 1000000) :
    Con 6 91 news [.bytes b tb, .int most tm, .int limit tl] (Grown news (rowsD (readR most limit b.toList))) := by
  unfold Con
  w_top off
  k_fill
  intro w mean mg mb dp un gd cn cs a9 ccd cl outer A₀ base h₀ L m s Q E B F X N T hk hd hu hret
  refine wpAny_call ?_
  k_dflt (k_extra "OG enter")
  k_steps
  rename RdAt _ _ (rd0 _ _) _ _ _ => hR9
  refine Stop.mk (og_for_bytes (σ := Led × Led) (fun c => c.2) (fun _ => []) [] (fun i c => RdAt _ _ (rdFold most limit (b.toList.take i)) c.1 (c.1 ++ news) c.2 ∧ ∀ p ∈ c.1, ∀ q ∈ news, q.1 ≠ p.1) ([], _) (by rfl) (by k_asm) (by k_asm) (fun _ h => nomatch h) ⟨hR9, fun _ h => nomatch h⟩ ?_ ?_)
  · rintro i k t ⟨dat, led⟩ u h tk own hk9 ⟨hR, hA⟩ hoff F8 N8
    dsimp only at hR hA hoff N8 F8
    simp only [kstB] at F8
    have hok := rdFold_ok (rd0_ok h1 h2 h3 h4) (b.toList.take i)
    have hR' := rdAt_own hR hoff
    obtain ⟨dx, Fa, Pa, t1, t2, t3, t4, t5, t6, tm, tl, fs, ps, vv, n1, n2, rfl, -⟩ := hR
    simp only [List.cons_append] at N8 hR'
    k_steps
    rename RdAt _ _ (rdPut _ _) _ _ _ => hR9'
    have hs9' := (by assumption : ∀ p ∈ dat ++ news ++ own, p ∈ _)
    have hd9' := (by assumption : ∀ p ∈ _, p ∈ dat ∨ ∀ q ∈ dat ++ news ++ own, q.1 ≠ p.1)
    obtain ⟨led2, hR2, hs2, ho2⟩ := rdAt_next (news := news) (own := own) hR9' (fun p hp => hs9' p (by rcases List.mem_append.mp hp with hp | hp; exact List.mem_append_left _ (List.mem_append_right _ hp); exact List.mem_append_right _ hp)) hd9' (fun p hp => List.mem_append_right _ hp)
      (fun p hp b hb => hoff p hp b (by simp only [List.map_cons, List.mem_cons, List.map_append, List.mem_append]; exact .inr (.inr (.inr (.inr (.inl hb))))))
      (fun p hp b hb => hoff p hp b (by simp only [List.map_cons, List.mem_cons, List.map_append, List.mem_append]; exact .inr (.inr (.inr (.inr (.inr hb))))))
    have hJ1 := hR2
    rw [← rdFold_snoc, ← take_snoc' (by rw [Array.getElem?_toList]; exact hk9)] at hJ1
    have hJ2 := fun (p : Addr × Obj) hp (q : Addr × Obj) (hq : q ∈ news) => show q.1 ≠ p.1 from Or.elim (hd9' p hp) (fun h => hA p h q hq) (fun h => h q (List.mem_append_left _ (List.mem_append_right _ hq)))
    exact lend (_, led2) (by k_asm) (by k_asm) hs2 ho2 (fun _ h => nomatch h) (by ksw_same) ⟨hJ1, hJ2⟩
  · rintro ⟨dat, led⟩ u h tk ⟨hR, hA⟩ F8 N8
    have et : b.toList.take b.size = b.toList := by rw [← Array.length_toList]; exact List.take_length
    dsimp only at hR hA N8 F8
    rw [et] at hR
    simp only [kstB] at F8
    have hok := rdFold_ok (rd0_ok h1 h2 h3 h4) b.toList
    have hrl := rdFold_rows (rd0_ok h1 h2 h3 h4) b.toList
    have hRc := hR
    obtain ⟨dx, Fa, Pa, t1, t2, t3, t4, t5, t6, tm, tl, fs, ps, vv, n1, n2, rfl, -, o1, o2, o3, o4, -⟩ := hR
    k_steps
    rename DatAll _ _ (List.map rowD (rdParams _)) => hv9'
    rename Apart _ _ => ha9'
    have hap := read_apart o1 o2 o3 o4 hA ha9'
    have hm9' := (by assumption : (_, listOf _ _) ∈ _ ++ _)
    obtain ⟨N9', G9'⟩ := grown_mk (d := rowsD (rdParams (rdFold most limit b.toList))) (news := news) _ (by assumption) (by k_extra "OG sub") hap (DatIn.list hm9' hv9') (by k_extra "OG sub")
    exact hret _ _ _ _ (by k_asm) N9' G9'
theorem nat_of {x b : Int} (h0 : 0 ≤ x) (_h : x < b) : ∃ k : Nat, x = (k : Int) := ⟨x.toNat, by omega⟩
theorem fig_item : ∀ (w : World) (A : Around) (h₀ : Heap) (L : Addr) (m : Str → Option Value) (s : Shared) (E : Value → Shared → Prop) (value slice : PySem.Expr) (x : Int) (u : Tok) (Q : Value → Shared → Prop) (_F : Fr h₀ L s.heap m) (_X : (kheap w.params).In h₀) (_h0 : 0 ≤ x) (_h1 : x < 8) (_h : ∀ c tc, c.size ≤ 12 → Q (.bytes c tc) s)
    (_hs : subscripted slice false (.ref 168) (.int x u) = operate [.ref 168, .int x u] (getItem (.ref 168) (.int x u))), wpAny (model (PySem.Challenge.rw_og0240_01.row).prog w) A (subscriptTail value slice (.ref 168) (.int x u)) Q E s := by
  w_top off
  k_fill
  intro w A h₀ L m s E value slice x u Q F X h0 h1 h hs
  obtain rfl | rfl | rfl | rfl | rfl | rfl | rfl | rfl := (by omega : x = 0 ∨ x = 1 ∨ x = 2 ∨ x = 3 ∨ x = 4 ∨ x = 5 ∨ x = 6 ∨ x = 7)
  all_goals (refine topTup_K (Q := Q) F X (by k_is) (by decide) (by decide) (by rfl) (by rfl) (h _ _ ?_) hs; decide)
theorem oth_item : ∀ (w : World) (A : Around) (h₀ : Heap) (L : Addr) (m : Str → Option Value) (s : Shared) (E : Value → Shared → Prop) (value slice : PySem.Expr) (x : Int) (u : Tok) (Q : Value → Shared → Prop) (_F : Fr h₀ L s.heap m) (_X : (kheap w.params).In h₀) (_h0 : 0 ≤ x) (_h1 : x < 4) (_h : ∀ c tc, c.size ≤ 12 → Q (.bytes c tc) s)
    (_hs : subscripted slice false (.ref 169) (.int x u) = operate [.ref 169, .int x u] (getItem (.ref 169) (.int x u))), wpAny (model (PySem.Challenge.rw_og0240_01.row).prog w) A (subscriptTail value slice (.ref 169) (.int x u)) Q E s := by
  w_top off
  k_fill
  intro w A h₀ L m s E value slice x u Q F X h0 h1 h hs
  obtain rfl | rfl | rfl | rfl := (by omega : x = 0 ∨ x = 1 ∨ x = 2 ∨ x = 3)
  all_goals (refine topTup_K (Q := Q) F X (by k_is) (by decide) (by decide) (by rfl) (by rfl) (h _ _ ?_) hs; decide)
theorem lines_f20 : True := by
  k_with "subscriptTail" => first | ((k_here; (with_reducible show wpAny _ _ (subscriptTail _ _ (Value.ref 168) (Value.int _ _)) _ _ _); k_dflt (refine fig_item _ _ _ _ _ _ _ _ _ _ _ _ (by k_asm) (by k_asm) (by assumption) (by assumption) ?_ (by with_unfolding_all rfl); intro qqc9 qqtc9 qqhc9))) | fail "no line"
  k_with "subscriptTail" => first | ((k_here; (with_reducible show wpAny _ _ (subscriptTail _ _ (Value.ref 169) (Value.int _ _)) _ _ _); k_dflt (refine oth_item _ _ _ _ _ _ _ _ _ _ _ _ (by k_asm) (by k_asm) (by assumption) (by assumption) ?_ (by with_unfolding_all rfl); intro qqc9 qqtc9 qqhc9))) | fail "no line"
  k_with "binaryOp Add bytes bytes" => first | ((k_here; (with_reducible show wpAny _ _ (binaryOp Operator.Add (Value.bytes _ _) (Value.bytes _ _)) _ _ _); k_dflt (refine KBy.add_bytes (by first | omega | (refine Nat.le_trans (Nat.add_le_add_left (m := 12) (by decide) _) ?_; omega)) ?_; intro qqt9 qqk9))) | fail "no line"
  trivial

theorem law_octets_con (W nu : Addr) (ns : List Int) (nvs : List Value) (nn n : Nat) (rest : Led) (i stir : Int) (t1 t2 : Tok) (hi : IntsAre nvs ns) (hns : ∀ k ∈ ns, 0 ≤ k ∧ k < 1000003) (hlen : ns.length ≤ 63) (h0 : 0 ≤ i ∧ i ≤ 500) (h2 : 0 ≤ stir ∧ stir ≤ 200000) (hne : @Ne Nat nu W) (hW : ∀ p ∈ rest, p.1 ≠ W) :
    Con 2 183 ((W, wellO nu i stir t1 t2 n) :: (nu, listOf nvs.toArray nn) :: rest) [.ref W]
      (fun news' r => ∃ i' stir' t4 t5 n' b t6, news' = (W, wellO nu i' stir' t4 t5 n') :: (nu, listOf nvs.toArray nn) :: rest ∧ (i ≤ i' ∧ i' ≤ i + 40) ∧ (0 ≤ stir' ∧ stir' ≤ 200000) ∧ r = .bytes b t6 ∧ b.size ≤ 120) := by
  unfold Con
  w_top off
  k_fill
  intro w mean mg mb dp un gd cn cs a ccd cl outer A₀ base h₀ L m s Q E B F X N T hk hd hu hret
  refine wpAny_call ?_
  k_dflt (k_extra "OG enter")
  k_steps
  rename _ < (11 : Int) => x2
  obtain ⟨nr, rfl⟩ := nat_of (by assumption) x2
  refine Stop.mk (og_for_range (σ := Array UInt8 × Tok × Int × Int × Tok × Tok × Nat) (n := nr)
    (fun c => (W, wellO nu c.2.2.1 c.2.2.2.1 c.2.2.2.2.1 c.2.2.2.2.2.1 c.2.2.2.2.2.2) :: (nu, listOf nvs.toArray nn) :: rest)
    (fun c => [(Str.ofString "found", .bytes c.1 c.2.1)]) [Str.ofString "kind"]
    (fun k c => (i ≤ c.2.2.1 ∧ c.2.2.1 ≤ i + 1 + 2 * (k : Int)) ∧ (0 ≤ c.2.2.2.1 ∧ c.2.2.2.1 ≤ 200000) ∧ c.1.size ≤ 12 * k) (#[], _, i + 1, _, _, _, _) (by rfl) (by assumption) (small_one (by omega) (by omega) (by omega) (by omega)) (by first | exact rangeSize_nat _ _ | simpa using rangeSize_nat 0 nr)
    (by k_asm) (by k_asm) (by intro p hp; rw [List.mem_singleton.mp hp]; rfl) ⟨⟨by dsimp only; omega, by dsimp only; omega⟩, by assumption, by simp⟩ ?_ ?_)
  · rintro k t ⟨b, tb, i1, stir1, t4, t5, n1⟩ u h tk own hk9 ⟨hi1, hs1, hb1⟩ hoff F8 N8
    dsimp only at hi1 hs1 hb1 hoff N8 F8
    simp only [kstB] at F8
    simp only [List.cons_append] at N8
    have hWo : ∀ p ∈ own, p.1 ≠ W := hoff.ne (.head _)
    have hkn : k < 11 := by omega
    k_steps
    skip
    all_goals exact lend (_, _, _, _, _, _, _) (by k_asm) (by k_asm) (by k_extra "OG sub") (by assumption) (by intro p hp; rw [List.mem_singleton.mp hp]; rfl) (by k_extra "OG same") ⟨⟨by dsimp only; omega, by dsimp only; omega⟩, by assumption, by dsimp only; rw [Array.size_append]; first | omega | (refine Nat.le_trans (Nat.add_le_add_left (m := 12) (by decide) _) ?_; omega)⟩
  · rintro ⟨b, tb, i1, stir1, t4, t5, n1⟩ u h tk ⟨hi1, hs1, hb1⟩ F8 N8
    dsimp only at hi1 hs1 hb1 N8 F8
    simp only [kstB] at F8
    k_steps
    exact hret _ _ _ _ (by k_asm) (news_sub (by k_asm) (by k_extra "OG sub")) ⟨_, _, _, _, _, _, _, rfl, ⟨by omega, by omega⟩, by assumption, rfl, by omega⟩
theorem lines_f21 : True := by
  k_with "call ref" => first | ((k_here; (with_reducible show wpAny _ _ (call (Value.ref 183) _ _) _ _ _); k_dflt (refine' con_use (law_octets_con _ _ _ _ _ _ _ _ _ _ _ ?oghi ?oghns ?oghlen ?ogh0 ?ogh2 ?oghne ?oghW) ?ogB ?ogF ?ogX ?ogN ?ogT ?ogkk ?ogd ?ogu ?_; (case ogN => k_asm); (case oghi => assumption); (case oghns => assumption); (case oghlen => assumption); (case ogh0 => first | assumption | (constructor <;> omega)); (case ogh2 => assumption); (case oghne => k_extra "OG ne"); (case oghW => k_extra "OG off"); k_extra "OG use"; k_whole); k_dflt (intro qqr9 qqnw9 qqh9 qqtk9 qqF9 qqN9 qqP9; obtain ⟨qqi9, qqstir9, qqt94, qqt95, qqn9, qqb9, qqt96, qqe9, qqg8, qqg9, qqe9', qqhz9⟩ := qqP9; subst qqe9; subst qqe9'); (try dsimp only); (try k_fold))) | fail "no line"
  trivial

noncomputable def lvFold (b : List UInt8) : Int := b.foldl (fun a k => a * 10 + (k.toNat : Int) - 48) 0
noncomputable def lvOf (limit : Int) (b : List UInt8) : Option Int := if b = [] then none else some (min (lvFold b) limit)
theorem lvFold_snoc (b : List UInt8) (k : UInt8) : lvFold (b ++ [k]) = lvFold b * 10 + (k.toNat : Int) - 48 := by
  unfold lvFold; rw [List.foldl_append]; rfl
theorem law_value_con (news : Led) (b : Array UInt8) (tb : Tok) (limit : Int) (tl : Tok) : Con 1 190 news [.bytes b tb, .int limit tl] (fun news' r => news' = news ∧ DatIn [] r (optD (lvOf limit b.toList))) := by
  unfold Con
  w_top off
  k_fill
  intro w mean mg mb dp un gd cn cs a ccd cl outer A₀ base h₀ L m s Q E B F X N T hk hd hu hret
  refine wpAny_call ?_
  k_dflt (k_extra "OG enter")
  k_steps
  · have e9 : b.toList = [] := by first | (have h9 := eq_of_beq (by assumption : (b.toList == #[].toList) = true); simpa using h9)
    exact hret _ _ _ _ (by k_asm) (by k_asm) ⟨rfl, by rw [lvOf, if_pos e9]; exact .none⟩
  · have e9 : b.toList ≠ [] := fun h9 => by have h8 := (by assumption : (b.toList == #[].toList) = false); rw [h9] at h8; exact absurd h8 (by decide)
    refine Stop.mk (og_for_bytes (σ := Int × Tok) (fun _ => news) (fun c => [(Str.ofString "found", .int c.1 c.2)]) [] (fun i c => c.1 = lvFold (b.toList.take i)) (0, _) (by rfl) (by k_asm) (by k_asm) (by intro p hp; rw [List.mem_singleton.mp hp]; rfl) rfl ?_ ?_)
    · rintro i k t ⟨f, tf⟩ u h tk own hk9 hf hoff F8 N8
      dsimp only at hf hoff N8 F8
      simp only [kstB] at F8
      k_steps
      have hJ := take_snoc' (xs := b.toList) (k := i) (x := k) (by rw [Array.getElem?_toList]; exact hk9)
      exact lend (_, _) (by k_asm) (by k_asm) (fun _ h => h) hoff (by intro p hp; rw [List.mem_singleton.mp hp]; rfl) (by k_extra "OG same") (by rw [hJ, lvFold_snoc, ← hf])
    · rintro ⟨f, tf⟩ u h tk hf F8 N8
      dsimp only at hf N8 F8
      simp only [kstB] at F8
      have et : b.toList.take b.size = b.toList := by rw [← Array.length_toList]; exact List.take_length
      rw [et] at hf
      subst hf
      k_steps
      all_goals exact hret _ _ _ _ (by k_asm) (by k_asm) ⟨rfl, by rw [lvOf, if_neg e9]; exact datInt (by omega)⟩
theorem lines_f22 : True := by
  k_with "call ref" => first | ((k_here; (with_reducible show wpAny _ _ (call (Value.ref 190) _ _) _ _ _); k_dflt (refine' con_use (law_value_con _ _ _ _ _) ?ogB ?ogF ?ogX ?ogN ?ogT ?ogkk ?ogd ?ogu ?_; (case ogN => k_asm); k_extra "OG use"; k_whole); k_dflt (intro qqr9 qqnw9 qqh9 qqtk9 qqF9 qqN9 qqP9; obtain ⟨qqe9, qqhv9⟩ := qqP9; (replace qqe9 := qqe9.symm); subst qqe9); (try dsimp only); (try k_fold))) | fail "no line"
  trivial

noncomputable def lvTold (b : List UInt8) : List UInt8 := b.filter fun k => decide (48 ≤ k.toNat ∧ k.toNat ≤ 59)
noncomputable def lvRows (limit : Int) (T : Array UInt8) : List (List (Option Int)) := (cutAt 59 T).map fun row => (cutAt 58 row).map fun p => lvOf limit p.toList
theorem dall_comp {α β : Type} {led : Led} {vs : List Value} {f : β → Dat} {g : α → β} {xs : List α} (h : DatAll led vs (xs.map fun x => f (g x))) : DatAll led vs ((xs.map g).map f) := by
  rw [List.map_map]; exact h
noncomputable def lawRead (most limit : Int) (b : List UInt8) : List (List (Option Int)) := if lvTold b = [] then [] else ((lvRows limit (lvTold b).toArray).take most.toNat).map (·.take most.toNat)
theorem told_nil {l : List UInt8} (h : (l.toArray.toList == (#[] : Array UInt8).toList) = true) : l = [] := by simpa using h
theorem told_ne {l : List UInt8} (h : (l.toArray.toList == (#[] : Array UInt8).toList) = false) : l ≠ [] := by simpa using h
theorem off_lt' {l : Addr} {x : Led} (h : AllLt l x) : ∀ p ∈ x, p.1 ≠ l := fun p hp => Nat.ne_of_lt (allLt_of' h p hp)
theorem lvRow_len {limit : Int} {T : Array UInt8} {y : List (Option Int)} (h : y ∈ lvRows limit T) (hT : T.size ≤ 120) : y.length ≤ 121 := by
  obtain ⟨row, hr, rfl⟩ := List.mem_map.mp h
  rw [List.length_map]
  have := cutAt_len 58 row
  have := cutAt_size row hr
  omega
theorem told_ok (b : List UInt8) : ∀ n ∈ (b.filter fun k => decide (48 ≤ k.toNat ∧ k.toNat ≤ 59)).map (fun k => (k.toNat : Int)), 0 ≤ n ∧ n < 256 := fun n hn => by
  obtain ⟨k, hk, rfl⟩ := List.mem_map.mp hn
  have h := of_decide_eq_true (List.mem_filter.mp hk).2
  omega
theorem law_read_con (news : Led) (b : Array UInt8) (tb : Tok) (most limit : Int) (tm tl : Tok) (h1 : 1 ≤ most) (h2 : most ≤ 100) (h3 : 0 ≤ limit) (h4 : limit ≤ 1000000) (hz : b.size ≤ 120) :
    Con 3 195 news [.bytes b tb, .int most tm, .int limit tl] (Grown news (rowsD (lawRead most limit b.toList))) := by
  unfold Con
  w_top off
  k_fill
  intro w mean mg mb dp un gd cn cs a ccd cl outer A₀ base h₀ L m s Q E B F X N T hk hd hu hret
  refine wpAny_call ?_
  k_dflt (k_extra "OG enterC")
  k_steps
  refine og_bsrc (p := fun k => decide (48 ≤ k.toNat ∧ k.toNat ≤ 59)) (by rfl) (by k_asm) (by k_asm) (by omega) ?_ ?_
  · intro i k t I oI C oC D oD m₂ h tk E' hk9 hC hx F8 N8 off ne
    k_steps
    · exact ⟨decide_eq_true (by omega), _, _, _, rfl, by k_asm, by k_asm, rfl⟩
    all_goals exact ⟨decide_eq_false (by omega), _, _, rfl, by k_asm, by k_asm⟩
  · intro h1 ys hy
    have hr9 := told_ok b.toList
    have hl9 : (b.toList.filter fun k => decide (48 ≤ k.toNat ∧ k.toNat ≤ 59)).length ≤ 120 := Nat.le_trans (List.length_filter_le _ _) (by rw [Array.length_toList]; exact hz)
    have hl8 : ((b.toList.filter fun k => decide (48 ≤ k.toNat ∧ k.toNat ≤ 59)).map (fun k => (k.toNat : Int))).length ≤ 120 := by rw [List.length_map]; exact hl9
    have hTb : (((b.toList.filter fun k => decide (48 ≤ k.toNat ∧ k.toNat ≤ 59)).map (fun k => (k.toNat : Int))).map fun n => n.toNat.toUInt8) = lvTold b.toList := told_back _
    have hTa := congrArg List.toArray hTb
    generalize (b.toList.filter fun k => decide (48 ≤ k.toNat ∧ k.toNat ≤ 59)).map (fun k => (k.toNat : Int)) = ns at hy hr9 hl8 hTa hTb ⊢
    k_steps
    · exact Exists.elim (grown_any (d := rowsD (lawRead most limit b.toList)) (by k_asm) (by k_extra "OG sub") (DatIn.list (.head _) (by rw [lawRead, if_pos (by rw [← hTb]; exact told_nil (by assumption))]; exact .nil))) fun nw NG => hret _ _ _ _ (by k_asm) NG.1 NG.2
    · have hT : lvTold b.toList ≠ [] := by rw [← hTb]; exact told_ne (by assumption)
      refine Stop.mk (og_src_list (f := Dat.bytes) (g := fun row => rowD ((cutAt 58 row).map fun p => lvOf limit p.toList)) (.head _) (DatAll.mono sub_tail_self (by assumption)) (by rfl) (by k_asm) (by k_asm) (fun _ h => h) (Nat.lt_of_le_of_lt (cutAt_len _ _) (by simp only [List.size_toArray, List.length_map]; omega)) ?t9 ?f9)
      case t9 =>
        intro i y v I oI C oC D oD m₂ tl h8 tk8 E' hy hv hC hx F8 N8 off ha ne
        obtain ⟨ty, rfl⟩ := dat_bytes hv
        have hyl : y.size ≤ 120 := Nat.le_trans (cutAt_size y (List.mem_of_getElem? hy)) (by simp only [List.size_toArray, List.length_map]; omega)
        k_steps
        refine Stop.mk (og_src_list (f := Dat.bytes) (g := fun p => optD (lvOf limit p.toList)) (.head _) (DatAll.mono sub_tail_self (by assumption)) (by rfl) (by k_asm) (by k_asm) (fun _ h => h) (Nat.lt_of_le_of_lt (cutAt_len _ _) (by omega)) ?_ ?_)
        · intro i2 y2 v2 I2 oI2 C2 oC2 D2 oD2 m2 tl2 h2 tk2 E2 hy2' hv2 hC2 hx2 F2 N2 off2 ha2 ne2
          obtain ⟨ty2, rfl⟩ := dat_bytes hv2
          k_steps
          exact Stop.mk (cturn0 (by k_asm) (by k_asm) (datIn_opt _ (by assumption)))
        · intro h1 ys tl1 ha1 hy1 hd1
          k_steps
          rename LCg.Off1 _ (_ ++ tl1) => o9
          have hd2 : DatAll [] ys (((cutAt 58 y).map fun p => lvOf limit p.toList).map optD) := dall_opt (by rw [List.map_map]; exact hd1)
          exact Stop.mk (cturn1o (by k_asm) (news_sub (by k_asm) (by k_extra "OG sub")) (fun p hp => off1_mem o9 p (List.mem_append_left _ (.tail _ hp))) (DatIn.list (List.mem_append_right _ (.head _)) (dall_opt hd2)))
      case f9 =>
        intro h1 ys tl ha hy hd8
        have hd7 := dall_comp (f := rowD) (g := fun row => (cutAt 58 row).map fun p => lvOf limit p.toList) hd8
        have hl7 : (lvRows limit (ns.map fun n => n.toNat.toUInt8).toArray).length ≤ 121 := by rw [lvRows, List.length_map]; exact Nat.le_trans (cutAt_len _ _) (by simp only [List.size_toArray, List.length_map]; omega)
        k_steps
        k_dflt (refine' og_slice_upto (f := rowD) (xs := lvRows limit (ns.map fun n => n.toNat.toUInt8).toArray) ?ga ?gb ?gF ?gN ?ghs ?gh0 ?ghz ?_ ?gs ?gt; (case gF => k_asm); (case gN => k_asm); (case ghs => exact fun _ h => h); (case ga => exact .head _); (case gb => exact DatAll.mono sub_tail_self hd7); (case gh0 => omega); (case ghz => omega); (case gs => with_unfolding_all rfl); (case gt => kmk_pure))
        intro D6 h6 ws6 F6 N6 l6 hd6
        k_steps
        refine Stop.mk (og_src_list (f := rowD) (g := fun r => rowD (r.take most.toNat)) (xs := (lvRows limit (ns.map fun n => n.toNat.toUInt8).toArray).take most.toNat) (.head _) (DatAll.mono sub_tail_self hd6) (by rfl) (by k_asm) (by k_asm) (fun _ h => h) (by rw [List.length_take]; omega) ?t9 ?f9)
        case t9 =>
          intro i y v I oI C oC D oD m₂ tl9 h8 tk8 E' hy hv hC hx F8 N8 off ha ne
          have hyl : y.length ≤ 121 := lvRow_len (List.mem_of_mem_take (List.mem_of_getElem? hy)) (by simp only [List.size_toArray, List.length_map]; omega)
          obtain ⟨b, vs, n, rfl, hb, hvs⟩ := dat_list hv
          k_steps
          exact Stop.mk (cturn1o (by k_asm) (by k_asm) (off_lt' (by assumption)) (DatIn.list (List.mem_append_right _ (.head _)) (dall_opt (by assumption))))
        case f9 =>
          intro h1 ys9 tl9 ha9 hy9 hd9
          k_steps
          exact Exists.elim (grown_any (d := rowsD (lawRead most limit b.toList)) (by k_asm) (by k_extra "OG sub") (DatIn.list (.head _) (by rw [lawRead, if_neg hT]; exact DatAll.mono sub_tail_self (dall_comp (by rw [← hTa]; exact hd9))))) fun nw NG => hret _ _ _ _ (by k_asm) NG.1 NG.2
theorem lines_f23 : True := by
  k_with "call ref" => first | ((k_here; (with_reducible show wpAny _ _ (call (Value.ref 195) _ _) _ _ _); k_dflt (refine' con_use (law_read_con _ _ _ _ _ _ _ ?ogg1 ?ogg2 ?ogg3 ?ogg4 ?oggz) ?ogB ?ogF ?ogX ?ogN ?ogT ?ogkk ?ogd ?ogu ?_; (case ogN => k_asm); (case ogg1 => omega); (case ogg2 => omega); (case ogg3 => omega); (case ogg4 => omega); (case oggz => first | assumption | omega); k_extra "OG use"; k_whole); k_dflt (intro qqr9 qqnw9 qqh9 qqtk9 qqF9 qqN9 qqP9; obtain ⟨qqtl9, qqe9, qqha9, qqhd9⟩ := qqP9; subst qqe9; obtain ⟨qqb9, qqvs9, qqn9, qqe9', qqhm9, qqhv9⟩ := dat_list qqhd9; subst qqe9'); (try dsimp only); (try k_fold))) | fail "no line"
  trivial

/-- put together with something between -/
noncomputable def glue {α : Type} (sep : List α) : List (List α) → List α
  | [] => []
  | x :: r => x ++ (r.map fun p => sep ++ p).flatten
theorem joined_rest (sep : Array UInt8) : ∀ (r : List (Array UInt8)) (k : Nat) (out : Array UInt8), 0 < k → ((r.zipIdx k).foldl (fun out (p : Array UInt8 × Nat) => (if p.2 > 0 then out ++ sep else out) ++ p.1) out).toList = out.toList ++ (r.map fun p => sep.toList ++ p.toList).flatten
  | [], _, out, _ => by simp
  | p :: r, k, out, hk => by
    rw [List.zipIdx_cons, List.foldl_cons, joined_rest sep r (k + 1) _ (by omega), if_pos hk]
    simp [List.append_assoc]
theorem joined_glue (sep : Array UInt8) (ps : List (Array UInt8)) : (Builtin.Bytes.joined sep ps).toList = glue sep.toList (ps.map (·.toList)) := by
  cases ps with
  | nil => rfl
  | cons p r =>
    show (((p :: r).zipIdx).foldl _ #[]).toList = _
    rw [List.zipIdx_cons, List.foldl_cons]
    have h := joined_rest sep r (0 + 1) ((if (0 : Nat) > 0 then #[] ++ sep else #[]) ++ p) (by omega)
    refine h.trans ?_
    simp [glue, List.map_map, Function.comp_def]
theorem join_glue (sep : Str) : ∀ (xs : List Str), (Str.join sep xs).cps.toList = glue sep.cps.toList (xs.map (·.cps.toList))
  | [] => rfl
  | [x] => by simp [Str.join, glue]
  | x :: y :: r => by
    have ih := join_glue sep (y :: r)
    show ((x ++ sep) ++ Str.join sep (y :: r)).cps.toList = _
    rw [Str.cps_append, Str.cps_append, Array.toList_append, Array.toList_append, ih]
    simp [glue, List.append_assoc]
theorem glue_map {α β : Type} (f : α → β) (sep : List α) : ∀ xs : List (List α), (glue sep xs).map f = glue (sep.map f) (xs.map (·.map f))
  | [] => rfl
  | x :: r => by
    show (x ++ (r.map fun p => sep ++ p).flatten).map f = _
    simp [glue, List.map_flatten, List.map_map, Function.comp_def]
theorem digR_text (m : Nat) : (Nat.toDigits 10 m).map Char.toNat = (digR m).reverse.map Int.toNat := by
  have dc : ∀ d : Nat, d < 10 → (Nat.digitChar d).toNat = (48 + ((d : Nat) : Int)).toNat := by decide
  induction m using Nat.strongRecOn with
  | _ m ih =>
    rw [digR]
    by_cases h : m < 10
    · rw [Nat.toDigits_of_lt_base h, dif_pos (by omega), Nat.mod_eq_of_lt h]
      simp only [List.map_cons, List.map_nil, List.reverse_cons, List.reverse_nil, List.nil_append]
      rw [dc m h]
    · have hm : m % 10 < 10 := Nat.mod_lt m (by decide)
      have t : Nat.toDigits 10 (m / 10) ++ Nat.toDigits 10 (m % 10) = Nat.toDigits 10 (10 * (m / 10) + m % 10) := Nat.toDigits_append_toDigits (by decide) (by omega) hm
      rw [Nat.div_add_mod] at t
      rw [← t, List.map_append, Nat.toDigits_of_lt_base hm, dif_neg (by omega), ih (m / 10) (by omega), List.reverse_cons, List.map_append]
      simp only [List.map_cons, List.map_nil]
      rw [dc (m % 10) hm]
noncomputable def textOf : Option Int → Str
  | none => Str.ofString ""
  | some i => Str.ofString (toString i)
noncomputable def rowT (r : List (Option Int)) : Str := Txt.join (Str.ofString ":") (r.map textOf)
noncomputable def rowsT (rs : List (List (Option Int))) : Str := Txt.join (Str.ofString ";") (rs.map rowT)
theorem decB_nat {n : Int} : (decB n).toList.map (·.toNat) = (digR n.toNat).reverse.map Int.toNat := by
  show (((digR n.toNat).reverse.map fun n => n.toNat.toUInt8).toArray).toList.map (·.toNat) = _
  rw [List.map_map]
  refine List.map_congr_left fun k hk => ?_
  have h := digR_in n.toNat k (List.mem_reverse.mp hk)
  show (k.toNat.toUInt8).toNat = k.toNat
  rw [Nat.toUInt8, UInt8.toNat_ofNat']
  omega
theorem textOf_bytes {o : Option Int} (h : ∀ i, o = some i → 0 ≤ i) : (textOf o).cps.toList = (partB o).toList.map (·.toNat) := by
  cases o with
  | none => rfl
  | some i =>
    obtain ⟨m, rfl⟩ : ∃ m : Nat, i = (m : Int) := ⟨i.toNat, by have := h i rfl; omega⟩
    show (Str.ofString (toString ((m : Nat) : Int))).cps.toList = (decB ((m : Nat) : Int)).toList.map (·.toNat)
    rw [KIN.signs_num, digR_text, decB_nat, Int.toNat_natCast]
theorem txt_join (sep : Str) (xs : List Str) : Txt.join sep xs = Str.join sep xs := StrLaws.glued_eq_join sep xs
theorem rowT_bytes {r : List (Option Int)} (h : ∀ i, some i ∈ r → 0 ≤ i) : (rowT r).cps.toList = (rowB r).toList.map (·.toNat) := by
  unfold rowT rowB
  rw [txt_join, join_glue, joined_glue, glue_map, List.map_map, List.map_map, List.map_map]
  have e : ∀ o ∈ r, (textOf o).cps.toList = (partB o).toList.map (·.toNat) := fun o ho => textOf_bytes fun i e => h i (e ▸ ho)
  have e2 : r.map ((fun x : Str => x.cps.toList) ∘ textOf) = r.map ((fun x : List UInt8 => x.map (·.toNat)) ∘ ((fun x : Array UInt8 => x.toList) ∘ partB)) := List.map_congr_left e
  rw [e2]
  rfl
theorem rowsT_bytes {rs : List (List (Option Int))} (h : ∀ r ∈ rs, ∀ i, some i ∈ r → 0 ≤ i) : (rowsT rs).cps.toList = (paramsB rs).toList.map (·.toNat) := by
  unfold rowsT paramsB
  rw [txt_join, join_glue, joined_glue, glue_map, List.map_map, List.map_map, List.map_map]
  have e : ∀ r ∈ rs, (rowT r).cps.toList = (rowB r).toList.map (·.toNat) := fun r hr => rowT_bytes (h r hr)
  have e2 : rs.map ((fun x : Str => x.cps.toList) ∘ rowT) = rs.map ((fun x : List UInt8 => x.map (·.toNat)) ∘ ((fun x : Array UInt8 => x.toList) ∘ rowB)) := List.map_congr_left e
  rw [e2]
  rfl
theorem dall_strs {led : Led} : ∀ {vs : List Value} {xs : List Str}, DatAll led vs (xs.map Dat.str) → StrsAre vs xs
  | _, [], h => by cases h; exact .nil
  | _, x :: _, h => by
    cases h with
    | cons h1 h2 =>
      cases h1 with
      | str _ t => exact .cons x t (dall_strs h2)
theorem og_sjoin {prog : Program} {w : World} {A : Around} {E : Value → Shared → Prop} {s : Shared} {h₀ : Heap} {L : Addr} {news led : Led} {x : Str} {t : Tok} {l : Addr} {vs : List Value} {n : Nat} {xs : List Str} {Q : Value → Shared → Prop} (hm : (l, listOf vs.toArray n) ∈ led) (hd : DatAll led vs (xs.map Dat.str)) (N : News h₀ L s.heap news) (hs : ∀ p ∈ led, p ∈ news)
    (hx : x.length ≤ 64) (hsz : (xs.map (·.length)).sum + xs.length * 64 ≤ 16777216) (h : ∀ t' tk, Q (.str (Txt.join x xs) t') { s with toks := tk }) :
    wpAny (model prog w) A (call (.builtin "str.join") [.str x t, .ref l]) Q E s :=
  join_listC (items := vs.toArray) ⟨_, (N _ (hs _ hm)).1, rfl, n, rfl⟩ (dall_strs hd) hx hsz h
theorem sumLen_le {B : Nat} : ∀ {xs : List Str}, (∀ x ∈ xs, x.length ≤ B) → (xs.map (·.length)).sum ≤ xs.length * B
  | [], _ => by simp
  | x :: r, h => by
    have h1 := h x (.head _)
    have h2 := sumLen_le (B := B) (xs := r) fun y hy => h y (.tail _ hy)
    simp only [List.map_cons, List.sum_cons, List.length_cons, Nat.add_mul, Nat.one_mul]
    omega
theorem joinT_le {B : Nat} {sep : Str} (hsep : sep.length = 1) {xs : List Str} (h : ∀ x ∈ xs, x.length ≤ B) : (Txt.join sep xs).length ≤ xs.length * (B + 1) := by
  rw [txt_join]
  cases xs with
  | nil => exact Nat.zero_le _
  | cons x r =>
    rw [len_join_cons, hsep, Nat.mul_one]
    have := sumLen_le (xs := x :: r) h
    simp only [List.length_cons, Nat.add_mul, Nat.mul_add, Nat.one_mul, Nat.mul_one] at this ⊢
    omega
theorem textOf_len {o : Option Int} (h : ∀ i, o = some i → 0 ≤ i ∧ i < 10 ^ 18) : (textOf o).length ≤ 18 := by
  cases o with
  | none => exact Nat.zero_le _
  | some i => exact toString_length_le (h i rfl).1 (by decide) (h i rfl).2
theorem rowT_sum {r : List (Option Int)} (h1 : r.length ≤ 100) (h2 : ∀ i, some i ∈ r → 0 ≤ i ∧ i < 10 ^ 18) : ((r.map textOf).map (·.length)).sum + (r.map textOf).length * 64 ≤ 16777216 := by
  have h : ∀ x ∈ r.map textOf, x.length ≤ 18 := fun x hx => by
    obtain ⟨o, ho, rfl⟩ := List.mem_map.mp hx
    exact textOf_len fun i e => h2 i (e ▸ ho)
  have := sumLen_le h
  rw [List.length_map] at this ⊢
  omega
theorem rowT_len {r : List (Option Int)} (h1 : r.length ≤ 100) (h2 : ∀ i, some i ∈ r → 0 ≤ i ∧ i < 10 ^ 18) : (rowT r).length ≤ 1900 := by
  have h : ∀ x ∈ r.map textOf, x.length ≤ 18 := fun x hx => by
    obtain ⟨o, ho, rfl⟩ := List.mem_map.mp hx
    exact textOf_len fun i e => h2 i (e ▸ ho)
  have := joinT_le (sep := Str.ofString ":") (by decide) h
  rw [List.length_map] at this
  unfold rowT
  omega
theorem rowsT_sum {rs : List (List (Option Int))} (h : Tame rs) : ((rs.map rowT).map (·.length)).sum + (rs.map rowT).length * 64 ≤ 16777216 := by
  have hx : ∀ x ∈ rs.map rowT, x.length ≤ 1900 := fun x hx => by
    obtain ⟨r, hr, rfl⟩ := List.mem_map.mp hx
    exact rowT_len (h.2 r hr).1 (h.2 r hr).2
  have := sumLen_le hx
  have := h.1
  rw [List.length_map] at *
  omega
theorem rowsT_len {rs : List (List (Option Int))} (h : Tame rs) : (rowsT rs).cps.size ≤ 190100 := by
  have hx : ∀ x ∈ rs.map rowT, x.length ≤ 1900 := fun x hx => by
    obtain ⟨r, hr, rfl⟩ := List.mem_map.mp hx
    exact rowT_len (h.2 r hr).1 (h.2 r hr).2
  have h2 := joinT_le (sep := Str.ofString ";") (by decide) hx
  have := h.1
  rw [List.length_map] at h2
  show (rowsT rs).length ≤ 190100
  unfold rowsT
  omega
theorem glue_mem {α : Type} {sep : List α} {xs : List (List α)} {p : α} (h : p ∈ glue sep xs) : p ∈ sep ∨ ∃ x ∈ xs, p ∈ x := by
  cases xs with
  | nil => exact nomatch h
  | cons x r =>
    rcases List.mem_append.mp h with h | h
    · exact .inr ⟨x, .head _, h⟩
    · obtain ⟨l, hl, hp⟩ := List.mem_flatten.mp h
      obtain ⟨y, hy, rfl⟩ := List.mem_map.mp hl
      rcases List.mem_append.mp hp with hp | hp
      · exact .inl hp
      · exact .inr ⟨y, .tail _ hy, hp⟩
theorem decB_in {n : Int} : ∀ k ∈ (decB n).toList, 48 ≤ k.toNat ∧ k.toNat ≤ 57 := fun k hk => by
  have h : k.toNat ∈ (digR n.toNat).reverse.map Int.toNat := by rw [← decB_nat]; exact List.mem_map_of_mem hk
  obtain ⟨d, hd, e⟩ := List.mem_map.mp h
  have := digR_in n.toNat d (List.mem_reverse.mp hd)
  omega
theorem partB_in {o : Option Int} : ∀ k ∈ (partB o).toList, 48 ≤ k.toNat ∧ k.toNat ≤ 57 := by
  cases o with
  | none => exact fun k hk => nomatch hk
  | some i => exact decB_in
theorem rowB_in {r : List (Option Int)} : ∀ k ∈ (rowB r).toList, 48 ≤ k.toNat ∧ k.toNat ≤ 58 := fun k hk => by
  unfold rowB at hk
  rw [joined_glue] at hk
  rcases glue_mem hk with h | ⟨x, hx, h⟩
  · rw [List.mem_singleton.mp h]; decide
  · rw [List.map_map] at hx
    obtain ⟨o, _, rfl⟩ := List.mem_map.mp hx
    have := partB_in (o := o) k h
    omega
theorem paramsB_in {rs : List (List (Option Int))} : ∀ k ∈ (paramsB rs).toList, 48 ≤ k.toNat ∧ k.toNat ≤ 59 := fun k hk => by
  unfold paramsB at hk
  rw [joined_glue] at hk
  rcases glue_mem hk with h | ⟨x, hx, h⟩
  · rw [List.mem_singleton.mp h]; decide
  · rw [List.map_map] at hx
    obtain ⟨o, _, rfl⟩ := List.mem_map.mp hx
    have := rowB_in (r := o) k h
    omega
theorem written_ascii {rs : List (List (Option Int))} (h : (rowsT rs).cps.toList = (paramsB rs).toList.map (·.toNat)) : (rowsT rs).cps.all (· < 128) = true := by
  rw [← Array.all_toList, h, List.all_eq_true]
  intro c hc
  obtain ⟨k, hk, rfl⟩ := List.mem_map.mp hc
  have := paramsB_in k hk
  exact decide_eq_true (by omega)
theorem lines_f24 : True := by
  k_with "call builtin:str.join" => first | ((k_here; (with_reducible show wpAny _ _ (call (Value.builtin "str.join") [Value.str _ _, Value.ref _]) _ _ _); k_dflt (refine' og_sjoin ?ogjm ?ogjd ?ogjN ?ogjs ?ogjx ?ogjz ?_; (case ogjN => k_asm); (case ogjs => exact fun _ h => h); (case ogjm => k_mem); (case ogjd => (refine' DatAll.mono ?ogs9 ?ogh9; (case ogh9 => assumption); (case ogs9 => k_extra "OG sub"))); (case ogjx => decide); (case ogjz => assumption); k_whole); intro qqt' qqtk')) | fail "no line"
  k_with "eval ListComp" => first | ((k_here; (with_reducible show wpAny _ _ (eval (PySem.Expr.ListComp (PySem.Expr.Call _ _ _ _) [⟨_, PySem.Expr.Call (PySem.Expr.Attribute _ _ _) _ _ _, [], _⟩] _ _) _) _ _ _); k_dflt (refine ListComp_US (by k_asm) (by with_unfolding_all rfl) (by decide) (by rfl) (by decide) (by rfl) ?_))) | fail "no line"
  trivial

theorem law_written_con (news : Led) (v : Value) (rs : List (List (Option Int))) (hD : DatIn news v (rowsD rs)) (hT : Tame rs) : Con 3 200 news [v] (fun news' r => news' = news ∧ ∃ t, r = .bytes (paramsB rs) t) := by
  obtain ⟨pa, pvs, pn, rfl, pm, pd⟩ := dat_list hD
  have hlen := hT.1
  unfold Con
  w_top off
  k_fill
  intro w mean mg mb dp un gd cn cs a ccd cl outer A₀ base h₀ L m s Q E B F X N T hk hd hu hret
  refine wpAny_call ?_
  k_dflt (k_extra "OG enter")
  k_steps
  refine Stop.mk (og_src_list (f := rowD) (g := Dat.str ∘ rowT) pm pd (by rfl) (by k_asm) (by k_asm) (fun _ h => h) (by omega) ?_ ?_)
  · intro i y v I oI C oC D oD m₂ tl h tk E' hy hv hC hx F9 N9 off ha ne
    have hy2 := hT.2 y (List.mem_of_getElem? hy)
    have hyl := hy2.1
    obtain ⟨b, vs, n, rfl, hb, hvs⟩ := dat_list hv
    k_steps
    refine Stop.mk (og_src_list (f := optD) (g := Dat.str ∘ textOf) hb hvs (by rfl) (by k_asm) (by k_asm) (by k_extra "OG sub") (by omega) ?_ ?_)
    · intro i2 y2 v2 I2 oI2 C2 oC2 D2 oD2 m2 tl2 h2 tk2 E2 hy2' hv2 hC2 hx2 F2 N2 off2 ha2 ne2
      have ho : ∀ j, y2 = some j → 0 ≤ j ∧ j < 10 ^ 18 := fun j e => hy2.2 j (e ▸ List.mem_of_getElem? hy2')
      rcases dat_opt hv2 with ⟨rfl, rfl⟩ | ⟨j, tj, rfl, rfl⟩
      · k_steps
        exact Stop.mk (cturn0 (by k_asm) (by k_asm) (.str _ _))
      · have hj := ho j rfl
        k_steps
        exact Stop.mk (cturn0 (by k_asm) (by k_asm) (.str _ _))
    · intro h1 ys tl1 ha1 hy1 hd1
      rw [← List.map_map] at hd1
      have hz1 := rowT_sum hy2.1 hy2.2
      k_steps
      exact Stop.mk (cturn0 (by k_asm) (news_sub (by k_asm) (by k_extra "OG sub")) (.str _ _))
  · intro h1 ys tl ha hy hd9
    rw [← List.map_map] at hd9
    have hz1 := rowsT_sum hT
    k_steps
    have hB := rowsT_bytes (rs := rs) fun r hr j hj => ((hT.2 r hr).2 j hj).1
    have hS := rowsT_len hT
    have hA : (rowsT rs).cps.all (· < 128) = true := written_ascii hB
    refine og_ssrc (tx := rowsT rs) (g := fun c => (c : Int)) (by rfl) (by k_asm) (by k_asm) (by omega) hA ?_ ?_
    · intro i c t I oI C oC D oD m₂ h tk E' hc hC hx F8 N8 off ne
      k_steps
      exact ⟨trivial, _, _, _, rfl, by k_asm, by k_asm, rfl⟩
    · intro h1 ys hy
      have hI : (rowsT rs).cps.toList.map (fun c : Nat => (c : Int)) = (paramsB rs).toList.map (fun k => (k.toNat : Int)) := by rw [hB, List.map_map]; rfl
      have hI2 := told_back (paramsB rs).toList
      have hr9 : ∀ n ∈ (paramsB rs).toList.map (fun k => (k.toNat : Int)), 0 ≤ n ∧ n < 256 := fun n hn => by
        obtain ⟨k, _, rfl⟩ := List.mem_map.mp hn
        have := k.toNat_lt
        omega
      have hl9 : ((paramsB rs).toList.map (fun k => (k.toNat : Int))).length ≤ 190100 := by rw [← hI, List.length_map, Array.length_toList]; exact hS
      rw [hI] at hy
      generalize (paramsB rs).toList.map (fun k => (k.toNat : Int)) = ns at hy hr9 hl9 hI2
      k_steps
      exact hret _ news _ _ (by k_asm) (news_sub (by k_asm) (by k_extra "OG sub")) ⟨rfl, _, by rw [hI2]⟩
theorem take_pred {α : Type} {xs : List α} {k : Nat} (h0 : 0 < k) (h : k ≤ xs.length) : ∃ y, xs.take k = xs.take (k - 1) ++ [y] := by
  obtain ⟨j, rfl⟩ : ∃ j, k = j + 1 := ⟨k - 1, by omega⟩
  exact ⟨_, take_snoc (List.getElem?_eq_getElem (by omega))⟩
theorem trim_pop {rs : List (List (Option Int))} {k : Nat} {r : List (Option Int)} (hk : k ≤ rs.length) (h0 : 0 < (rs.take k).length) (hr : (rs.take k)[(rs.take k).length - 1]? = some r) : trimR (rs.take k) = if r = [none] then trimR (rs.take (k - 1)) else rs.take k := by
  have hl : (rs.take k).length = k := by rw [List.length_take]; omega
  rw [hl] at h0 hr
  obtain ⟨j, rfl⟩ : ∃ j, k = j + 1 := ⟨k - 1, by omega⟩
  rw [Nat.add_sub_cancel] at hr ⊢
  rw [List.getElem?_take_of_lt (by omega)] at hr
  rw [take_snoc hr, trimR_snoc]
theorem law_trimmed_con (news : Led) (v : Value) (rs : List (List (Option Int))) (hD : DatIn news v (rowsD rs)) (hT : Tame rs) : Con 2 207 news [v] (Grown news (rowsD (trimR rs))) := by
  obtain ⟨pa, pvs, pn, rfl, pm, pd⟩ := dat_list hD
  have hlen := hT.1
  unfold Con
  w_top off
  k_fill
  intro w mean mg mb dp un gd cn cs a ccd cl outer A₀ base h₀ L m s Q E B F X N T hk hd hu hret
  refine wpAny_call ?_
  k_dflt (k_extra "OG enter")
  k_steps
  refine Stop.mk (ksw_while (σ := List Value × Nat) (fun c => (_, listOf c.1.toArray c.2) :: news) (fun _ => []) (fun _ => True) [] (fun c => ∃ k : Nat, k ≤ rs.length ∧ c.1 = pvs.take k ∧ trimR (rs.take k) = trimR rs) (fun c => c.1.length)
    (pvs, _) (by k_asm) (by k_asm) trivial (fun _ h => nomatch h) ⟨rs.length, Nat.le_refl _, by rw [← List.length_map (as := rs) (f := rowD), ← pd.length, List.take_length], by rw [List.take_length]⟩ ?_)
  rintro ⟨vs, n9⟩ u h tk9 _ ⟨k, p1, p2, p3⟩ F9 N9
  dsimp only at p2 F9 N9
  subst p2
  simp only [kstB] at F9
  have hdk := DatAll.take k pd
  rw [← List.map_take] at hdk
  have hlk : (rs.take k).length = k := by rw [List.length_take]; omega
  have hmk : ∀ D n, (D, listOf (pvs.take k).toArray n) ∈ (D, listOf (pvs.take k).toArray n) :: news := fun _ _ => .head _
  k_steps
  · have hn : rs.take k = [] := of_decide_eq_true (by assumption)
    have hdk' := hdk
    rw [hn] at hdk'
    exact Exists.elim (grown_any (d := rowsD (trimR rs)) (by k_asm) (by k_extra "OG sub") (DatIn.list (vs := pvs.take k) (by k_extra "OG mem") (DatAll.mono (news := news) (by k_extra "OG sub") (by rw [← p3, hn, trimR_nil]; exact hdk')))) fun nw NG => hret _ _ _ _ (by k_asm) NG.1 NG.2
  · have hk0 : 0 < (rs.take k).length := List.length_pos_iff.mpr (of_decide_eq_false (by assumption))
    k_dflt (refine' og_lastrow (rs := rs.take k) ?qa ?qb ?qN ?qs ?q0 ?_ ?qh; (case qN => k_asm); (case qs => exact fun _ h => h); (case qa => k_mem); (case qb => k_extra "OG datall"); (case q0 => exact hk0); (case qh => with_unfolding_all rfl))
    intro b vs n' r hr hrm hb hvs
    have ht := trim_pop p1 hk0 hr
    obtain ⟨y, hy⟩ := take_pred (xs := pvs) (k := k) (by omega) (by rw [pd.length, List.length_map]; exact p1)
    have hz : (pvs.take k).length < 2 ^ 24 := by rw [List.length_take, pd.length, List.length_map]; omega
    k_steps
    · dsimp only
      k_dflt (refine' og_pop hy ?qF ?qN ?qU ?qz ?_; (case qF => k_asm); (case qN => k_asm); (case qU => k_upd); (case qz => exact hz); k_whole)
      intro h7 F7 N7
      (try k_sweep)
      k_steps
      refine ksw_end (pvs.take (k - 1), n9 + 1) (by k_asm) (news_sub (by k_asm) (by k_extra "OG sub")) (fun _ h => h) trivial (fun _ h => nomatch h) (by ksw_same) ⟨k - 1, by omega, rfl, ?_⟩ ?_
      · rw [← p3, ht, if_pos (by assumption)]
      · dsimp only
        rw [hy, List.length_append, List.length_singleton]
        exact Nat.lt_succ_self _
    · exact Exists.elim (grown_any (d := rowsD (trimR rs)) (by k_asm) (by k_extra "OG sub") (DatIn.list (vs := pvs.take k) (by k_extra "OG mem") (DatAll.mono (news := news) (by k_extra "OG sub") (by rw [← p3, ht, if_neg (by assumption)]; exact hdk)))) fun nw NG => hret _ _ _ _ (by k_asm) NG.1 NG.2
theorem lines_f25 : True := by
  k_with "call ref" => first | ((k_here; (with_reducible show wpAny _ _ (call (Value.ref 207) _ _) _ _ _); k_dflt (refine' con_use (law_trimmed_con _ _ _ ?oghD ?oghT) ?ogB ?ogF ?ogX ?ogN ?ogT ?ogkk ?ogd ?ogu ?_; (case ogN => k_asm); (case oghD => k_extra "OG dat"); (case oghT => assumption); k_extra "OG use"; k_whole); k_dflt (intro qqr9 qqnw9 qqh9 qqtk9 qqF9 qqN9 qqP9; obtain ⟨qqtl9, qqe9, qqha9, qqhd9⟩ := qqP9; subst qqe9; obtain ⟨qqb9, qqvs9, qqn9, qqe9', qqhm9, qqhv9⟩ := dat_list qqhd9; subst qqe9'); (try dsimp only); (try k_fold))) | fail "no line"
  trivial

theorem median {n : List Int} {lo v hi : Int} (p : n.Perm [lo, v, hi]) (o : n.Pairwise (· ≤ ·)) (h : lo ≤ hi) : n.getD (Int.toNat 1) 0 = max lo (min v hi) := by
  have key : ∀ s : List Int, s.Perm [lo, v, hi] → s.Pairwise (· ≤ ·) → n = s := fun s p' o' => (p.trans p'.symm).eq_of_pairwise (fun a b _ _ h1 h2 => Int.le_antisymm h1 h2) o o'
  by_cases h1 : v ≤ lo
  · rw [key [v, lo, hi] (.swap _ _ _) (by simp; omega)]
    show lo = _
    omega
  · by_cases h2 : v ≤ hi
    · rw [key [lo, v, hi] (.refl _) (by simp; omega)]
      show v = _
      omega
    · rw [key [lo, hi, v] (.cons _ (.swap _ _ _)) (by simp; omega)]
      show hi = _
      omega
theorem has_some {rs : List (List (Option Int))} {i : Int} {r : List (Option Int)} (h : rs[i.toNat]? = some r) : (hasParts rs i == decide (1 < (r.length : Int))) = true := by
  have e : decide (1 < r.length) = decide (1 < (r.length : Int)) := by
    by_cases q : 1 < r.length
    · rw [decide_eq_true q, decide_eq_true (by omega)]
    · rw [decide_eq_false q, decide_eq_false (by omega)]
  simp [hasParts, h, ← e]
theorem has_out {rs : List (List (Option Int))} {i : Int} (h0 : 0 ≤ i) (h : ¬ i < (rs.length : Int)) : (hasParts rs i == decide ((1 : Int) < 0)) = true := by
  have e : rs[i.toNat]? = none := List.getElem?_eq_none (by omega)
  simp [hasParts, e]
noncomputable def PlAt (_ : Nat) : Prop := True
noncomputable def plainR (r : List (Option Int)) (d : Int) : Int := (r[0]?.join).getD d
noncomputable def valueR (r : List (Option Int)) (d : Int) : Int := if plainR r 0 = 0 then d else plainR r 0
theorem pr_nil {r : List (Option Int)} {d : Int} (h : decide (r = []) = true) : plainR r d = d := by rw [of_decide_eq_true h]; rfl
theorem pr_none {r : List (Option Int)} {d : Int} (h : r[Int.toNat 0]? = some none) : plainR r d = d := by
  have e : r[0]? = some none := h
  simp [plainR, e]
theorem pr_int {r : List (Option Int)} {d j : Int} (h : r[Int.toNat 0]? = some (some j)) : plainR r d = j := by
  have e : r[0]? = some (some j) := h
  simp [plainR, e]
theorem vr_zero {r : List (Option Int)} {d : Int} (h : plainR r d = 0) : valueR r d = d := by
  unfold valueR plainR at *
  cases e : r[0]?.join with
  | none => rfl
  | some j => rw [e] at h; rw [if_pos (show (some j).getD 0 = 0 from h)]
theorem vr_nil {r : List (Option Int)} {d : Int} (h : decide (r = []) = true) : valueR r d = d := by rw [of_decide_eq_true h]; rfl
theorem vr_else {r : List (Option Int)} {d : Int} (h : ¬ plainR r d = 0) : valueR r d = plainR r d := by
  unfold valueR plainR at *
  cases e : r[0]?.join with
  | none => rfl
  | some j => rw [e] at h; rw [if_neg (show ¬ (some j).getD 0 = 0 from h)]; rfl
theorem pr_of {rs : List (List (Option Int))} {i d : Int} {r : List (Option Int)} (e : (rs[i.toNat]?).getD [] = r) : plainOf rs i d = plainR r d ∧ valueOf rs i d = valueR r d := by
  subst e; exact ⟨rfl, rfl⟩
theorem pl_rowlen {rs : List (List (Option Int))} {i : Int} {r : List (Option Int)} (hs : Small rs) (e : (rs[i.toNat]?).getD [] = r) : r.length < 2 ^ 32 := by
  cases q : rs[i.toNat]? with
  | none => rw [q] at e; subst e; decide
  | some x => rw [q] at e; subst e; exact hs.2 _ (List.mem_of_getElem? q)
theorem rp_none {rs : List (List (Option Int))} {i n d : Int} {r : List (Option Int)} (e : (rs[i.toNat]?).getD [] = r) (h : r[n.toNat]? = some none) : partOf rs i n d = d := by
  subst e; simp [partOf, h]
theorem rp_int {rs : List (List (Option Int))} {i n d j : Int} {r : List (Option Int)} (e : (rs[i.toNat]?).getD [] = r) (h : r[n.toNat]? = some (some j)) : partOf rs i n d = j := by
  subst e; simp [partOf, h]
theorem rp_big {rs : List (List (Option Int))} {i n d : Int} {r : List (Option Int)} (e : (rs[i.toNat]?).getD [] = r) (h0 : 0 ≤ n) (h : ¬ n < (r.length : Int)) : partOf rs i n d = d := by
  have q : r[n.toNat]? = none := List.getElem?_eq_none (by omega)
  subst e; simp [partOf, q]
theorem row_has {rs : List (List (Option Int))} {i : Int} {r : List (Option Int)} (e : (rs[i.toNat]?).getD [] = r) : (hasParts rs i == decide (1 < (r.length : Int))) = true := by
  cases q : rs[i.toNat]? with
  | none => rw [q] at e; subst e; simp [hasParts, q]
  | some x => rw [q] at e; subst e; exact has_some q
section lplace
variable {prog : Program} {w : World} {A : Around} {E : Value → Shared → Prop} {s : Shared} {h₀ : Heap} {L : Addr} {m : Str → Option Value} {news : Led}
/-- behind «row = ..»: a list that bears r -/
noncomputable def RowAt (s : Shared) (h₀ : Heap) (L : Addr) (m : Str → Option Value) (news : Led) (r : List (Option Int)) (f : Flow) (s' : Shared) : Prop :=
  f = .next ∧ ∃ h tk nw b vs n, s' = { s with heap := h, toks := tk } ∧ Fr h₀ L h (fun y => if y = Str.ofString "row" then some (.ref b) else m y) ∧ News h₀ L h nw ∧ (∀ p ∈ news, p ∈ nw) ∧ (b, listOf vs.toArray n) ∈ nw ∧ DatAll nw vs (r.map optD)
theorem cut_row {c : Sem Flow} {Q : Flow → Shared → Prop} (r : List (Option Int)) (_ : Fr h₀ L s.heap m) (_ : News h₀ L s.heap news)
    (main : wpAny (model prog w) A c (RowAt s h₀ L m news r) E s)
    (cont : ∀ h tk nw b vs n, Fr h₀ L h (fun y => if y = Str.ofString "row" then some (.ref b) else m y) → News h₀ L h nw → (∀ p ∈ news, p ∈ nw) → (b, listOf vs.toArray n) ∈ nw → DatAll nw vs (r.map optD) → Q .next { s with heap := h, toks := tk }) : wpAny (model prog w) A c Q E s :=
  wpAny_mono main (fun _ _ h => by obtain ⟨rfl, h', tk, nw, b, vs, n, rfl, F, N, k, hb, hv⟩ := h; exact cont h' tk nw b vs n F N k hb hv) fun _ _ h => h
/-- behind «x = ..»: the int p; nothing new is kept -/
noncomputable def IntAt (s : Shared) (h₀ : Heap) (L : Addr) (m : Str → Option Value) (news : Led) (x : Str) (p : Int) (f : Flow) (s' : Shared) : Prop :=
  f = .next ∧ ∃ h tk t, s' = { s with heap := h, toks := tk } ∧ Fr h₀ L h (fun y => if y = x then some (.int p t) else m y) ∧ News h₀ L h news
theorem cut_int {c : Sem Flow} {Q : Flow → Shared → Prop} (x : Str) (p : Int) (_ : Fr h₀ L s.heap m) (_ : News h₀ L s.heap news)
    (main : wpAny (model prog w) A c (IntAt s h₀ L m news x p) E s)
    (cont : ∀ h tk t, Fr h₀ L h (fun y => if y = x then some (.int p t) else m y) → News h₀ L h news → Q .next { s with heap := h, toks := tk }) : wpAny (model prog w) A c Q E s :=
  wpAny_mono main (fun _ _ h => by obtain ⟨rfl, h', tk, t, rfl, F, N⟩ := h; exact cont h' tk t F N) fun _ _ h => h
end lplace
theorem lines_f26 : True := by
  k_with "exec Assign" => first | (((with_reducible show wpAny _ _ (exec (PySem.Stmt.Assign [_] (PySem.Expr.IfExp _ _ _ _) _) _) _ _ _); (with_reducible rename PlAt 1 => qqhst9); clear qqhst9; refine Stop.out ?_)) | fail "no line"
  trivial

theorem law_place_con (news : Led) (v : Value) (rs : List (List (Option Int))) (i d lo hi : Int) (t1 t2 t3 t4 : Tok) (hD : DatIn news v (rowsD rs)) (h0 : 0 ≤ i) (hs : Small rs) (hd1 : 1 ≤ d) (hlo : lo ≤ hi) : Con 4 221 news [v, .int i t1, .int d t2, .int lo t3, .int hi t4] (fun news' r => news' = news ∧ r = .bool true) := by
  obtain ⟨pa, pvs, pn, rfl, pm, pd⟩ := dat_list hD
  have hlen := hs.1
  unfold Con
  w_top off
  k_fill
  intro w mean mg mb dp un gd cn cs a ccd cl outer A₀ base h₀ L m s Q E B F X N T hk hd hu hret
  refine wpAny_call ?_
  k_dflt (k_extra "OG enter")
  have hst : PlAt 1 := trivial
  k_steps
  refine Stop.mk (cut_row ((rs[i.toNat]?).getD []) (by k_asm) (by k_asm) ?_ ?_)
  · k_steps
    · exact ⟨rfl, _, _, _, _, _, _, rfl, by k_asm, by k_asm, by k_extra "OG sub", by assumption, by rw [‹rs[i.toNat]? = some _›]; assumption⟩
    · exact ⟨rfl, _, _, _, _, _, _, rfl, by k_asm, by k_asm, by k_extra "OG sub", .head _, by rw [List.getElem?_eq_none (by omega)]; exact .nil⟩
  intro h1 tk1 nw b vs n F1 N1 hk1 hb hv
  generalize er : (rs[i.toNat]?).getD [] = r at hv
  have hD1 : DatIn nw _ (rowsD rs) := DatIn.list (hk1 _ pm) (pd.mono hk1)
  clear hD pm pd
  have hrl := pl_rowlen hs er
  have hP := (pr_of (d := d) er).1
  have hV := (pr_of (d := d) er).2
  have hst : PlAt 1 := trivial
  k_steps
  refine Stop.mk (cut_int (Str.ofString "plain") (plainOf rs i d) (by k_asm) N1 ?_ ?_)
  · k_steps
    · exact ⟨rfl, _, _, _, rfl, by rw [hP, pr_nil (by assumption)]; k_asm, news_sub (by k_asm) (by k_extra "OG sub")⟩
    · exact ⟨rfl, _, _, _, rfl, by rw [hP, pr_none (by assumption)]; k_asm, news_sub (by k_asm) (by k_extra "OG sub")⟩
    · exact ⟨rfl, _, _, _, rfl, by rw [hP, pr_int (by assumption)]; k_asm, news_sub (by k_asm) (by k_extra "OG sub")⟩
  intro h2 tk2 t2 F2 N2
  have hst : PlAt 1 := trivial
  k_steps
  refine Stop.mk (cut_int (Str.ofString "value") (valueOf rs i d) (by k_asm) N2 ?_ ?_)
  · k_steps
    · exact ⟨rfl, _, _, _, rfl, by rw [hV, vr_zero (by rw [← hP]; assumption)]; k_asm, news_sub (by k_asm) (by k_extra "OG sub")⟩
    · exact ⟨rfl, _, _, _, rfl, by rw [hV, vr_nil (by assumption)]; k_asm, news_sub (by k_asm) (by k_extra "OG sub")⟩
    · exact ⟨rfl, _, _, _, rfl, by rw [hV, vr_else (by rw [← hP]; assumption), ← hP]; k_asm, news_sub (by k_asm) (by k_extra "OG sub")⟩
  intro h3 tk3 t3 F3 N3
  clear hP hV
  k_steps
  all_goals first
    | exact absurd rfl (by assumption)
    | (exfalso; have hm9 := median (by assumption) (by assumption) hlo; omega)
    | skip
  refine Stop.mk (og_for_range (σ := Unit) (n := 4) (fun _ => _) (fun _ => []) [Str.ofString "part"] (fun _ _ => True) () (by rfl) (by assumption) (by decide) (by decide) (by k_asm) (by k_asm) (fun _ h => nomatch h) trivial ?_ ?_)
  · rintro k t _ u h tk own hk9 _ hoff F8 N8
    try dsimp only at hoff N8 F8
    simp only [kstB] at F8
    try simp only [List.cons_append] at N8
    k_steps
    all_goals first
      | (exfalso; first | exact absurd (rp_none (n := 0 + (k : Int)) (d := d) er (by assumption)) (by assumption) | exact absurd (rp_int (n := 0 + (k : Int)) (d := d) er (by assumption)) (by assumption) | exact absurd (rp_big (n := 0 + (k : Int)) (d := d) er (by omega) (by assumption)) (by assumption))
      | exact lend () (by k_asm) (by k_asm) (by k_extra "OG sub") hoff (fun _ h => nomatch h) (by k_extra "OG same") trivial
  · rintro _ u h tk _ F8 N8
    try dsimp only at N8 F8
    simp only [kstB] at F8
    k_steps
    exact hret _ news _ _ (by k_asm) (news_sub (news_sub (news2 := nw) (by k_asm) (by k_extra "OG sub")) hk1) ⟨rfl, congrArg Value.bool (row_has er)⟩
theorem lines_f27 : True := by
  k_with "call ref" => first | ((k_here; (with_reducible show wpAny _ _ (call (Value.ref 221) _ _) _ _ _); k_dflt (refine' con_use (law_place_con _ _ _ _ _ _ _ _ _ _ _ ?oghD ?ogh0 ?oghs ?ogh1 ?ogh2) ?ogB ?ogF ?ogX ?ogN ?ogT ?ogkk ?ogd ?ogu ?_; (case ogN => k_asm); (case oghD => k_extra "OG dat"); (case ogh0 => omega); (case oghs => assumption); (case ogh1 => omega); (case ogh2 => omega); k_extra "OG use"; k_whole); k_dflt (intro qqr9 qqnw9 qqh9 qqtk9 qqF9 qqN9 qqP9; obtain ⟨qqe9, qqe9'⟩ := qqP9; (replace qqe9 := qqe9.symm); subst qqe9; subst qqe9'); (try dsimp only); (try k_fold))) | fail "no line"
  trivial

theorem take_snoc_cap {α : Type} (xs : List α) (x : α) (n : Nat) : (xs ++ [x]).take n = if (xs.take n).length < n then xs.take n ++ [x] else xs.take n := by
  rw [List.take_append, List.length_take]
  by_cases h : xs.length < n
  · rw [if_pos (by omega), List.take_of_length_le (by omega), List.take_of_length_le (by simp only [List.length_singleton]; omega)]
  · rw [if_neg (by omega), show n - xs.length = 0 by omega, List.take_zero, List.append_nil]
theorem splitF_inv (c : UInt8) (b : List UInt8) : (∀ p ∈ (b.foldl (splitS c) ([], [])).1, ∀ k ∈ p, k ∈ b ∧ k ≠ c) ∧ (∀ k ∈ (b.foldl (splitS c) ([], [])).2, k ∈ b ∧ k ≠ c) := by
  have key : ∀ (b a : List UInt8) (s : List (List UInt8) × List UInt8), (∀ p ∈ s.1, ∀ k ∈ p, k ∈ a ++ b ∧ k ≠ c) → (∀ k ∈ s.2, k ∈ a ++ b ∧ k ≠ c) → (∀ p ∈ (b.foldl (splitS c) s).1, ∀ k ∈ p, k ∈ a ++ b ∧ k ≠ c) ∧ (∀ k ∈ (b.foldl (splitS c) s).2, k ∈ a ++ b ∧ k ≠ c) := by
    intro b
    induction b with
    | nil => intro a s h1 h2; exact ⟨h1, h2⟩
    | cons k b ih =>
      intro a s h1 h2
      have e : a ++ k :: b = (a ++ [k]) ++ b := by simp
      rw [e] at h1 h2 ⊢
      refine ih (a ++ [k]) _ ?_ ?_
      · intro p hp
        unfold splitS at hp
        split at hp
        · rcases List.mem_append.mp hp with hp | hp
          · exact h1 p hp
          · rw [List.mem_singleton.mp hp]; exact h2
        · exact h1 p hp
      · unfold splitS
        split
        · exact fun _ h => nomatch h
        · rename_i hk
          intro j hj
          rcases List.mem_append.mp hj with hj | hj
          · exact h2 j hj
          · rw [List.mem_singleton.mp hj]; exact ⟨by simp, hk⟩
  have := key b [] ([], []) (fun _ h => nomatch h) (fun _ h => nomatch h)
  simpa using this
theorem splitF_mem {c : UInt8} {b p : List UInt8} (h : p ∈ splitF c b) : ∀ k ∈ p, k ∈ b ∧ k ≠ c := by
  unfold splitF at h
  rcases List.mem_append.mp h with h | h
  · exact (splitF_inv c b).1 p h
  · rw [List.mem_singleton.mp h]; exact (splitF_inv c b).2
theorem lvFold_ge {b : List UInt8} (h : ∀ k ∈ b, 48 ≤ k.toNat) : 0 ≤ lvFold b := by
  have key : ∀ (b : List UInt8) (a : Int), 0 ≤ a → (∀ k ∈ b, 48 ≤ k.toNat) → 0 ≤ b.foldl (fun a k => a * 10 + (k.toNat : Int) - 48) a := by
    intro b
    induction b with
    | nil => intro a ha _; exact ha
    | cons k b ih =>
      intro a ha hb
      refine ih _ ?_ fun j hj => hb j (.tail _ hj)
      have := hb k (.head _)
      show 0 ≤ a * 10 + (k.toNat : Int) - 48
      omega
  exact key b 0 (by decide) h
noncomputable def partsOf (limit : Int) (row : List UInt8) : List (Option Int) := (splitF 58 row).map (lvOf limit)
theorem lvRows_eq (limit : Int) (T : List UInt8) : lvRows limit T.toArray = (splitF 59 T).map (partsOf limit) := by
  unfold lvRows
  rw [cutAt_eq, List.map_map]
  refine List.map_congr_left fun row _ => ?_
  show (cutAt 58 row.toArray).map (fun p => lvOf limit p.toList) = (splitF 58 row).map (lvOf limit)
  rw [cutAt_eq, List.map_map]
  rfl
theorem lawRead_eq (most limit : Int) (b : List UInt8) : lawRead most limit b = if lvTold b = [] then [] else ((splitF 59 (lvTold b)).take most.toNat).map fun row => (partsOf limit row).take most.toNat := by
  unfold lawRead
  rw [lvRows_eq, ← List.map_take, List.map_map]
  rfl
theorem rdFold_told (most limit : Int) (b : List UInt8) : rdFold most limit b = rdFold most limit (lvTold b) := by
  unfold rdFold lvTold
  rw [List.foldl_filter]
  congr 1
  funext r k
  by_cases h : 48 ≤ k.toNat ∧ k.toNat ≤ 59
  · rw [if_pos (decide_eq_true h)]
  · rw [if_neg (by rw [decide_eq_false h]; decide)]
    unfold rdPut
    rw [if_neg (by omega), if_neg (by omega), if_neg (by omega)]
structure RdInv (most limit : Int) (T : List UInt8) (r : Rd) : Prop where
  m : r.most = most
  l : r.limit = limit
  f : r.found = ((T.foldl (splitS 59) ([], [])).1.take most.toNat).map fun row => (partsOf limit row).take most.toNat
  p : r.parts = (((T.foldl (splitS 59) ([], [])).2.foldl (splitS 58) ([], [])).1.map (lvOf limit)).take most.toNat
  v : r.value = lvOf limit ((T.foldl (splitS 59) ([], [])).2.foldl (splitS 58) ([], [])).2
  b : r.begun = !T.isEmpty
theorem closePart_take {r : Rd} {most : Int} {xs : List (Option Int)} (h1 : 0 ≤ most) (hm : r.most = most) (hp : r.parts = xs.take most.toNat) : (rdClosePart r).parts = (xs ++ [r.value]).take most.toNat := by
  rw [take_snoc_cap]
  show (if (r.parts.length : Int) < r.most then r.parts ++ [r.value] else r.parts) = _
  rw [hm, hp]
  by_cases h : (xs.take most.toNat).length < most.toNat
  · rw [if_pos h, if_pos (by omega)]
  · rw [if_neg h, if_neg (by omega)]
theorem splitF_snoc (c : UInt8) (T : List UInt8) (k : UInt8) : (T ++ [k]).foldl (splitS c) ([], []) = splitS c (T.foldl (splitS c) ([], [])) k := by rw [List.foldl_append]; rfl
theorem snoc_ind {α : Type} {P : List α → Prop} (h0 : P []) (h1 : ∀ xs x, P xs → P (xs ++ [x])) (xs : List α) : P xs := by
  have : ∀ ys : List α, P ys.reverse := by
    intro ys
    induction ys with
    | nil => exact h0
    | cons y ys ih => rw [List.reverse_cons]; exact h1 _ _ ih
  have e := this xs.reverse
  rwa [List.reverse_reverse] at e
theorem rdInv_fold {most limit : Int} (h1 : 1 ≤ most) (h3 : 0 ≤ limit) (T : List UInt8) (hT : ∀ k ∈ T, 48 ≤ k.toNat ∧ k.toNat ≤ 59) : RdInv most limit T (rdFold most limit T) := by
  revert hT
  refine snoc_ind (P := fun T => (∀ k ∈ T, 48 ≤ k.toNat ∧ k.toNat ≤ 59) → RdInv most limit T (rdFold most limit T)) ?_ ?_ T
  · exact fun _ => ⟨rfl, rfl, by show [] = (List.take most.toNat []).map _; rw [List.take_nil]; rfl, by show [] = List.take most.toNat []; rw [List.take_nil], rfl, rfl⟩
  · intro T k ih hT
    have hi := ih fun j hj => hT j (List.mem_append_left _ hj)
    have hk := hT k (List.mem_append_right _ (.head _))
    obtain ⟨im, il, jf, ip, iv, ib⟩ := hi
    rw [rdFold_snoc]
    generalize rdFold most limit T = r at im il jf ip iv ib
    have hbe : (!(T ++ [k]).isEmpty) = true := by cases T <;> rfl
    have hcur := (splitF_inv 59 T).2
    generalize hs : T.foldl (splitS 59) ([], []) = s at jf ip iv hcur
    have hq := (splitF_inv 58 s.2).2
    generalize hqq : s.2.foldl (splitS 58) ([], []) = q at ip iv hq
    have hpos : 0 ≤ lvFold q.2 := lvFold_ge fun j hj => (hT j (List.mem_append_left _ (hcur j (hq j hj).1).1)).1
    by_cases c1 : (48 : Int) ≤ (k.toNat : Int) ∧ (k.toNat : Int) ≤ 57
    · have n9 : k ≠ 59 := fun e => by subst e; exact absurd c1.2 (by decide)
      have n8 : k ≠ 58 := fun e => by subst e; exact absurd c1.2 (by decide)
      have e9 : (T ++ [k]).foldl (splitS 59) ([], []) = (s.1, s.2 ++ [k]) := by rw [splitF_snoc, hs, splitS, if_neg n9]
      have e8 : (s.2 ++ [k]).foldl (splitS 58) ([], []) = (q.1, q.2 ++ [k]) := by rw [splitF_snoc, hqq, splitS, if_neg n8]
      rw [rdPut, if_pos c1]
      refine ⟨im, il, ?_, ?_, ?_, ?_⟩
      · rw [e9]; exact jf
      · rw [e9, e8]; exact ip
      · rw [e9, e8]
        show some (min r.limit (r.value.getD 0 * 10 + (k.toNat : Int) - 48)) = lvOf limit (q.2 ++ [k])
        rw [lvOf, if_neg (by simp), lvFold_snoc, il, iv]
        congr 1
        by_cases he : q.2 = []
        · rw [lvOf, if_pos he, he]
          show min limit (0 * 10 + (k.toNat : Int) - 48) = min (0 * 10 + (k.toNat : Int) - 48) limit
          omega
        · rw [lvOf, if_neg he]
          show min limit (min (lvFold q.2) limit * 10 + (k.toNat : Int) - 48) = _
          omega
      · exact hbe.symm
    · by_cases c2 : (k.toNat : Int) = 58
      · have e58 : k = 58 := UInt8.toNat_inj.mp (by show k.toNat = 58; omega)
        subst e58
        have e9 : (T ++ [58]).foldl (splitS 59) ([], []) = (s.1, s.2 ++ [58]) := by rw [splitF_snoc, hs, splitS, if_neg (by decide)]
        have e8 : (s.2 ++ [58]).foldl (splitS 58) ([], []) = (q.1 ++ [q.2], []) := by rw [splitF_snoc, hqq, splitS, if_pos rfl]
        rw [rdPut, if_neg c1, if_pos c2]
        refine ⟨im, il, ?_, ?_, ?_, hbe.symm⟩
        · rw [e9]; exact jf
        · rw [e9, e8, List.map_append, ← show [r.value] = [q.2].map (lvOf limit) by rw [iv]; rfl]
          exact closePart_take (by omega) im ip
        · rw [e9, e8]; rfl
      · have e59 : k = 59 := UInt8.toNat_inj.mp (by show k.toNat = 59; omega)
        subst e59
        have e9 : (T ++ [59]).foldl (splitS 59) ([], []) = (s.1 ++ [s.2], []) := by rw [splitF_snoc, hs, splitS, if_pos rfl]
        rw [rdPut, if_neg c1, if_neg c2, if_pos (by decide)]
        have hparts : (rdClosePart r).parts = (partsOf limit s.2).take most.toNat := by
          unfold partsOf splitF
          rw [hqq, List.map_append, ← show [r.value] = [q.2].map (lvOf limit) by rw [iv]; rfl]
          exact closePart_take (by omega) im ip
        refine ⟨im, il, ?_, ?_, ?_, hbe.symm⟩
        · rw [e9]
          show (if ((rdClosePart r).found.length : Int) < (rdClosePart r).most then (rdClosePart r).found ++ [(rdClosePart r).parts] else (rdClosePart r).found) = _
          rw [hparts, show (rdClosePart r).found = r.found from rfl, show (rdClosePart r).most = r.most from rfl, im, jf, List.length_map, take_snoc_cap]
          by_cases h : (s.1.take most.toNat).length < most.toNat
          · rw [if_pos h, if_pos (by omega), List.map_append]; rfl
          · rw [if_neg h, if_neg (by omega)]
        · rw [e9]; show [] = List.take most.toNat []; rw [List.take_nil]
        · rw [e9]; rfl
theorem told_in {b : List UInt8} : ∀ k ∈ lvTold b, 48 ≤ k.toNat ∧ k.toNat ≤ 59 := fun _ hk => of_decide_eq_true (List.mem_filter.mp hk).2
/-- the reader tells what the law's own parting tells -/
theorem read_law {most limit : Int} (h1 : 1 ≤ most) (h3 : 0 ≤ limit) (b : List UInt8) : readR most limit b = lawRead most limit b := by
  unfold readR
  rw [rdFold_told, lawRead_eq]
  obtain ⟨im, il, jf, ip, iv, ib⟩ := rdInv_fold h1 h3 (lvTold b) told_in
  generalize lvTold b = T at *
  generalize rdFold most limit T = r at *
  by_cases hT : T = []
  · subst hT
    rw [if_pos rfl, rdParams, if_pos (by rw [ib]; rfl)]
  · rw [if_neg hT, rdParams, if_neg (by rw [ib]; cases T with | nil => exact absurd rfl hT | cons _ _ => exact fun e => by cases e)]
    have hparts : rdParts r = (partsOf limit (T.foldl (splitS 59) ([], [])).2).take most.toNat := by
      unfold partsOf splitF
      rw [List.map_append, ← show [r.value] = [((T.foldl (splitS 59) ([], [])).2.foldl (splitS 58) ([], [])).2].map (lvOf limit) by rw [iv]; rfl, take_snoc_cap, ← ip]
      unfold rdParts
      rw [im]
      by_cases h : r.parts.length < most.toNat
      · rw [if_pos h, if_pos (by omega)]
      · rw [if_neg h, if_neg (by omega)]
    rw [hparts, im, jf, List.length_map]
    show _ = ((((T.foldl (splitS 59) ([], [])).1 ++ [(T.foldl (splitS 59) ([], [])).2]).take most.toNat).map _)
    rw [take_snoc_cap]
    by_cases h : ((T.foldl (splitS 59) ([], [])).1.take most.toNat).length < most.toNat
    · rw [if_pos h, if_pos (by omega), List.map_append]; rfl
    · rw [if_neg h, if_neg (by omega)]
/-- the law's own reading is small -/
theorem lawRead_tame {most limit : Int} (h1 : 1 ≤ most) (h2 : most ≤ 100) (h3 : 0 ≤ limit) (h4 : limit ≤ 1000000) (b : List UInt8) : ((lawRead most limit b).length : Int) ≤ most ∧ ∀ r ∈ lawRead most limit b, r ≠ [] ∧ (r.length : Int) ≤ most ∧ ∀ i, some i ∈ r → 0 ≤ i ∧ i ≤ limit := by
  rw [lawRead_eq]
  split
  · exact ⟨by show ((0 : Nat) : Int) ≤ most; omega, fun _ h => nomatch h⟩
  · refine ⟨by rw [List.length_map, List.length_take]; omega, ?_⟩
    intro r hr
    obtain ⟨row, hrow, rfl⟩ := List.mem_map.mp hr
    have hrow' := splitF_mem (List.mem_of_mem_take hrow)
    refine ⟨?_, by rw [List.length_take]; omega, ?_⟩
    · unfold partsOf splitF
      obtain ⟨n, hn⟩ : ∃ n, most.toNat = n + 1 := ⟨most.toNat - 1, by omega⟩
      rw [hn]
      intro h
      have := congrArg List.length h
      simp at this
    · intro i hi
      obtain ⟨p, hp, hpi⟩ := List.mem_map.mp (List.mem_of_mem_take hi)
      unfold lvOf at hpi
      split at hpi
      · cases hpi
      · have hpos : 0 ≤ lvFold p := lvFold_ge fun k hk => (told_in k (hrow' k (splitF_mem hp k hk).1).1).1
        cases hpi
        omega
theorem lawRead_Tame {most limit : Int} (h1 : 1 ≤ most) (h2 : most ≤ 100) (h3 : 0 ≤ limit) (h4 : limit ≤ 1000000) (b : List UInt8) : Tame (lawRead most limit b) := by
  obtain ⟨a, c⟩ := lawRead_tame h1 h2 h3 h4 b
  refine ⟨by omega, fun r hr => ?_⟩
  obtain ⟨_, c2, c3⟩ := c r hr
  refine ⟨by omega, fun i hi => ?_⟩
  have := c3 i hi
  omega
theorem splitF_app (c : UInt8) (x : List UInt8) (hx : ∀ k ∈ x, k ≠ c) (s : List (List UInt8) × List UInt8) : x.foldl (splitS c) s = (s.1, s.2 ++ x) := by
  induction x generalizing s with
  | nil => rw [List.append_nil]; rfl
  | cons k x ih =>
    rw [List.foldl_cons, ih (fun j hj => hx j (.tail _ hj)), splitS, if_neg (hx k (.head _))]
    simp
theorem splitF_glue (c : UInt8) (xs : List (List UInt8)) (h0 : xs ≠ []) (hx : ∀ x ∈ xs, ∀ k ∈ x, k ≠ c) : splitF c (glue [c] xs) = xs := by
  cases xs with
  | nil => exact absurd rfl h0
  | cons x r =>
    have key : ∀ (r : List (List UInt8)) (s : List (List UInt8) × List UInt8), (∀ x ∈ r, ∀ k ∈ x, k ≠ c) → (((r.map fun p => [c] ++ p).flatten).foldl (splitS c) s).1 ++ [(((r.map fun p => [c] ++ p).flatten).foldl (splitS c) s).2] = s.1 ++ [s.2] ++ r := by
      intro r
      induction r with
      | nil => intro s _; simp
      | cons y r ih =>
        intro s hr
        rw [List.map_cons, List.flatten_cons, List.foldl_append, List.foldl_append]
        show (List.foldl (splitS c) (List.foldl (splitS c) (splitS c s c) y) _).1 ++ [(List.foldl (splitS c) (List.foldl (splitS c) (splitS c s c) y) _).2] = _
        rw [splitF_app c y (hr y (.head _)), ih _ fun z hz => hr z (.tail _ hz), splitS, if_pos rfl]
        simp
    show ((x ++ _).foldl (splitS c) ([], [])).1 ++ [((x ++ _).foldl (splitS c) ([], [])).2] = _
    rw [List.foldl_append, splitF_app c x (hx x (.head _)), key r _ fun z hz => hx z (.tail _ hz)]
    simp
theorem lvFold_digR (n : Nat) : ((digR n).reverse.map Int.toNat).foldl (fun (a : Int) (k : Nat) => a * 10 + (k : Int) - 48) 0 = (n : Int) := by
  induction n using Nat.strongRecOn with
  | _ n ih =>
    rw [digR]
    by_cases h : n / 10 = 0
    · rw [dif_pos h]
      simp only [List.reverse_cons, List.reverse_nil, List.nil_append, List.map_cons, List.map_nil, List.foldl_cons, List.foldl_nil]
      omega
    · rw [dif_neg h, List.reverse_cons, List.map_append, List.foldl_append, ih (n / 10) (by omega)]
      simp only [List.map_cons, List.map_nil, List.foldl_cons, List.foldl_nil]
      omega
theorem lvFold_decB {i : Int} (h : 0 ≤ i) : lvFold (decB i).toList = i := by
  unfold lvFold
  have e : (decB i).toList.foldl (fun (a : Int) (k : UInt8) => a * 10 + (k.toNat : Int) - 48) 0 = ((decB i).toList.map (·.toNat)).foldl (fun (a : Int) (k : Nat) => a * 10 + (k : Int) - 48) 0 := by rw [List.foldl_map]
  rw [e, decB_nat, lvFold_digR]
  omega
theorem decB_ne {i : Int} : (decB i).toList ≠ [] := by
  intro h
  have e := congrArg List.length (decB_nat (n := i))
  rw [h, List.length_map, List.length_map, List.length_reverse, digR, List.length_cons] at e
  exact absurd e (by simp)
theorem lvOf_partB {limit : Int} {o : Option Int} (h : ∀ i, o = some i → 0 ≤ i ∧ i ≤ limit) : lvOf limit (partB o).toList = o := by
  cases o with
  | none => rfl
  | some i =>
    have := h i rfl
    show lvOf limit (decB i).toList = some i
    rw [lvOf, if_neg decB_ne, lvFold_decB this.1]
    congr 1
    omega
theorem partsOf_rowB {limit : Int} {r : List (Option Int)} (h0 : r ≠ []) (h : ∀ i, some i ∈ r → 0 ≤ i ∧ i ≤ limit) : partsOf limit (rowB r).toList = r := by
  unfold partsOf rowB
  rw [joined_glue]
  show (splitF 58 (glue [58] _)).map _ = r
  rw [splitF_glue]
  · rw [List.map_map, List.map_map]
    refine (List.map_congr_left (g := id) fun o ho => ?_).trans (List.map_id _)
    exact lvOf_partB fun i e => h i (e ▸ ho)
  · intro e; exact h0 (by simpa using e)
  · intro x hx k hk e
    rw [List.map_map] at hx
    obtain ⟨o, _, rfl⟩ := List.mem_map.mp hx
    have := partB_in (o := o) k hk
    subst e
    exact absurd this.2 (by decide)
theorem told_all {W : List UInt8} (h : ∀ k ∈ W, 48 ≤ k.toNat ∧ k.toNat ≤ 59) : lvTold W = W := List.filter_eq_self.mpr fun k hk => decide_eq_true (h k hk)
/-- what was written reads again -/
theorem read_back {most limit : Int} (h1 : 1 ≤ most) (h3 : 0 ≤ limit) {R : List (List (Option Int))} (hl : (R.length : Int) ≤ most) (hR : ∀ r ∈ R, r ≠ [] ∧ (r.length : Int) ≤ most ∧ ∀ i, some i ∈ r → 0 ≤ i ∧ i ≤ limit) : readR most limit (paramsB R).toList = if R = [[none]] then [] else R := by
  rw [read_law h1 h3, lawRead_eq, told_all paramsB_in]
  by_cases h0 : R = []
  · subst h0; rfl
  have es : splitF 59 (paramsB R).toList = R.map fun r => (rowB r).toList := by
    unfold paramsB
    rw [joined_glue]
    show splitF 59 (glue [59] _) = _
    rw [List.map_map, splitF_glue]
    · rfl
    · intro e; exact h0 (by simpa using e)
    · intro x hx k hk e
      obtain ⟨o, _, rfl⟩ := List.mem_map.mp hx
      have := rowB_in (r := o) k hk
      subst e
      exact absurd this.2 (by decide)
  have eback : (((splitF 59 (paramsB R).toList).take most.toNat).map fun row => (partsOf limit row).take most.toNat) = R := by
    rw [es, List.take_of_length_le (by rw [List.length_map]; omega), List.map_map]
    refine (List.map_congr_left (g := id) fun r hr => ?_).trans (List.map_id _)
    obtain ⟨a, b, c⟩ := hR r hr
    show (partsOf limit (rowB r).toList).take most.toNat = r
    rw [partsOf_rowB a c, List.take_of_length_le (by omega)]
  by_cases hn : R = [[none]]
  · subst hn
    rw [if_pos rfl, if_pos (by decide)]
  · rw [if_neg hn, if_neg ?_, eback]
    intro hw
    rw [hw] at es
    obtain ⟨r, rfl⟩ : ∃ r, R = [r] := by
      have e := congrArg List.length es
      rw [List.length_map] at e
      exact List.length_eq_one_iff.mp e.symm
    have er : (rowB r).toList = [] := by
      have e : [[]] = [(rowB r).toList] := es
      exact (List.cons.inj e).1.symm
    have er2 := congrArg (splitF 58) er
    unfold rowB at er2
    rw [joined_glue] at er2
    have hr := hR r (.head _)
    rw [show (#[58] : Array UInt8).toList = [58] from rfl, splitF_glue _ _ (by intro e; exact hr.1 (by simpa using e)) (by
      intro x hx k hk e
      rw [List.map_map] at hx
      obtain ⟨o, _, rfl⟩ := List.mem_map.mp hx
      have := partB_in (o := o) k hk
      subst e
      exact absurd this.2 (by decide))] at er2
    obtain ⟨o, rfl⟩ : ∃ o, r = [o] := by
      have e := congrArg List.length er2
      rw [List.length_map, List.length_map] at e
      exact List.length_eq_one_iff.mp e
    have eo : (partB o).toList = [] := (List.cons.inj er2).1
    cases o with
    | none => exact hn rfl
    | some i => exact decB_ne eo
theorem clear_con (P : Params) (a : Addr) (r : Rd) (dat rest news : Led) (hr : RdAt P a r dat rest news) :
    Con 2 50 news [.ref a] (fun news' res => ∃ rest', RdAt P a (rd0 r.most r.limit) [] rest' news' ∧ (∀ p ∈ rest, p ∈ rest') ∧ res = .none) := by
  obtain ⟨dx, Fa, Pa, t1, t2, t3, t4, t5, t6, tm, tl, fs, ps, vv, n1, n2, rfl, ⟨d1, d2, d3, d4, d5, d6⟩, o1, o2, o3, o4, hdr, hf, hp, hv⟩ := hr
  obtain ⟨most, limit, found, parts, value, begun⟩ := r
  dsimp only at *
  unfold Con
  w_top off
  k_fill
  intro w mean mg mb dp un gd cn cs a9 ccd cl outer A₀ base h₀ L m s Q E B F X N T hk hd hu hret
  refine wpAny_call ?_
  k_dflt (k_extra "OG enter")
  k_steps
  have l2 := (by assumption : _ < _ ∧ _ < _ ∧ _ < _ ∧ _ < _ ∧ _ < _ ∧ AllLt _ rest)
  have l1 := (by assumption : _ < _ ∧ _ < _ ∧ _ < _ ∧ _ < _ ∧ AllLt _ rest)
  refine hret _ ((a, instObj 79 dx) :: (dx, dictOf (rdEnts P t1 t2 t3 t4 t5 t6 (.int most tm) (.int limit tl) (.ref _) (.ref _) .none (.bool false)) 6) :: (_, listOf #[] 0) :: (_, listOf #[] 0) :: rest) _ _ (by k_asm) (news_sub (by k_asm) (by k_extra "OG sub")) ⟨rest, ⟨dx, _, _, t1, t2, t3, t4, t5, t6, tm, tl, [], [], .none, 0, 0, rfl, ⟨d1, Nat.ne_of_lt l1.1, Nat.ne_of_lt l2.2.1, Nat.ne_of_lt l1.2.1, Nat.ne_of_lt l2.2.2.1, Nat.ne_of_lt l2.1⟩, o1, o2, fun p hp => Nat.ne_of_lt (allLt_of' l1.2.2.2.2 p hp), fun p hp => Nat.ne_of_lt (allLt_of' l2.2.2.2.2.2 p hp), (fun _ h => nomatch h), .nil, .nil, .none⟩, fun _ h => h, rfl⟩
theorem lines_f28 : True := by
  k_with "call ref" => first | ((k_here; (with_reducible show wpAny _ _ (call (Value.ref 50) _ _) _ _ _); k_dflt (refine' con_use (clear_con _ _ _ _ _ _ ?oghr) ?ogB ?ogF ?ogX ?ogN ?ogT ?ogkk ?ogd ?ogu ?_; (case ogN => k_asm); (case oghr => assumption); k_extra "OG use"; k_whole); k_dflt (intro qqr9 qqnw9 qqh9 qqtk9 qqF9 qqN9 qqP9; obtain ⟨qqrest9, qqhR9, qqhs9, qqe9'⟩ := qqP9; subst qqe9'); (try dsimp only); (try k_fold))) | fail "no line"
  trivial

theorem filt_take (b : Array UInt8) : ∀ c, c ≤ b.size → (List.range c).filterMap (fun i => b[i]?) = b.toList.take c
  | 0, _ => rfl
  | c + 1, h => by
    have hk : b.toList[c]? = some b[c] := by rw [Array.getElem?_toList]; exact Array.getElem?_eq_getElem (by omega)
    rw [List.range_succ, List.filterMap_append, filt_take b c (by omega), take_snoc' hk]
    congr 1
    simp [Array.getElem?_eq_getElem (show c < b.size by omega)]
theorem bounds_take {n c : Nat} (h : c < n) : sliceBounds none (some (c : Int)) none n = (0, (c : Int), 1) := by
  unfold sliceBounds
  have e1 : ¬ ((c : Int) < 0) := by omega
  have e2 : (1 : Int) > 0 := by decide
  simp only [Option.getD_none, e1, e2, if_true, if_false]
  have e : max (0 : Int) (min (c : Int) (n : Int)) = (c : Int) := by omega
  rw [e]
theorem bslice_take {b : Array UInt8} {c : Nat} (h : c < b.size) : KBy.picked b none (some (c : Int)) = (b.toList.take c).toArray := by
  unfold KBy.picked
  rw [bounds_take h]
  dsimp only
  unfold Builtin.Bytes.sliced
  have e := sliceRange_one 0 c
  rw [show ((0 : Nat) : Int) = 0 from rfl] at e
  rw [e, Nat.sub_zero, show (fun x => 0 + x) = (id : Nat → Nat) from funext fun x => Nat.zero_add x, List.map_id, filt_take b c (by omega)]
theorem bslice_whole {b : Array UInt8} {c : Nat} (h : c < b.size) : KBy.whole b none (some (c : Int)) = false := by
  unfold KBy.whole
  rw [bounds_take h]
  dsimp only
  have e : ((c : Int) == (b.size : Int)) = false := by
    rw [beq_eq_false_iff_ne]; omega
  rw [e]
  simp
theorem lines_f29 : True := by
  k_with "exec For Tuple Call cons nil" => first | ((k_here; (rename Fr _ _ _ _ => qqlF'); (with_unfolding_all refine' For_turns qqlF' ?_; k_whole))) | fail "no line"
  k_with "call type:enumerate" => first | (((with_reducible show wpAny _ _ (call (Value.type _) [Value.bytes _ _]) _ _ _); refine Stop.out ?_)) | fail "no line"
  trivial

theorem took_in {k : Int} (h : 48 ≤ k) (e : (rdTook k != decide (k ≤ 59)) = true) : False := by
  have h1 : rdTook k = decide (k ≤ 59) := by
    unfold rdTook
    by_cases h2 : k ≤ 59
    · rw [decide_eq_true h2, decide_eq_true ⟨h, h2⟩]
    · rw [decide_eq_false h2, decide_eq_false fun h3 => h2 h3.2]
  rw [h1, bne_self_eq_false] at e
  cases e
theorem took_out {k : Int} (h : ¬ 48 ≤ k) (e : (rdTook k != decide (48 ≤ k)) = true) : False := by
  have h1 : rdTook k = decide (48 ≤ k) := by
    unfold rdTook
    rw [decide_eq_false h, decide_eq_false fun h3 => h h3.1]
  rw [h1, bne_self_eq_false] at e
  cases e
theorem lines_f30 : True := by
  k_with "OG took" => first | ((exfalso; first | exact took_in (by assumption) (by assumption) | exact took_out (by assumption) (by assumption))) | fail "no line"
  trivial

noncomputable def OgStop : Prop := True
theorem news_of_rd {P : Params} {a : Addr} {r : Rd} {dat rest small big : Led} {h₀ h : Heap} {L : Addr} (_ : RdAt P a r dat rest small) (N : News h₀ L h big) (hs : ∀ p ∈ small, p ∈ big) : News h₀ L h small := news_sub N hs
theorem lines_f31 : True := by
  k_with "call ref" => first | (((with_reducible show wpAny _ _ (call (Value.ref 57) _ _) _ _ _); (rename OgStop => qqhst9); clear qqhst9; refine Stop.out ?_)) | fail "no line"
  k_with "call ref" => first | (((with_reducible show wpAny _ _ (call (Value.ref 50) _ _) _ _ _); (rename OgStop => qqhst9); clear qqhst9; refine Stop.out ?_)) | fail "no line"
  trivial

theorem law_pieces_con (news : Led) (b : Array UInt8) (tb : Tok) (most limit cut : Int) (tm tl tc : Tok) (v : Value) (h1 : 1 ≤ most) (h2 : most ≤ 100) (h3 : 0 ≤ limit) (h4 : limit ≤ 1000000) (hz : b.size ≤ 120) (hc0 : 0 ≤ cut) (hc1 : cut ≤ (b.size : Int))
    (hD : DatIn news v (rowsD (readR most limit b.toList))) (hR : ∀ l : List UInt8, readR most limit l = lawRead most limit l) :
    Con 8 214 news [.bytes b tb, .int most tm, .int limit tl, .int cut tc, v] (fun news' r => news' = news ∧ r = .bool true) := by
  obtain ⟨pa, pvs, pn, rfl, pm, pd⟩ := dat_list hD
  unfold Con
  w_top off
  k_fill
  intro w mean mg mb dp un gd cn cs a ccd cl outer A₀ base h₀ L m s Q E B F X N T hk hd hu hret
  refine wpAny_call ?_
  k_dflt (k_extra "OG enter")
  k_steps
  rename RdAt _ _ (rd0 _ _) _ _ _ => hR9
  have hRc := hR9
  obtain ⟨dx, Fa, Pa, t1, t2, t3, t4, t5, t6, tm9, tl9, fs, ps, vv, n1, n2, rfl, -⟩ := hR9
  have hok := rd0_ok h1 h2 h3 h4
  have hrl : ∀ x ∈ (rd0 most limit).found, x.length ≤ 100 := fun _ h => nomatch h
  k_steps
  · refine Stop.mk (og_enum (σ := Led × Led) (x := Str.ofString "at") (fun c => c.2) (fun _ => []) [Str.ofString "at", Str.ofString "octet"] (fun i c => RdAt _ _ (rdFold most limit (b.toList.take i)) c.1 (c.1 ++ news) c.2 ∧ ∀ p ∈ c.1, ∀ q ∈ news, q.1 ≠ p.1) ([], _) (by rfl) (by decide) (by k_asm) (news_sub (by k_asm) (by k_extra "OG sub")) (fun _ h => nomatch h) ⟨hRc, fun _ h => nomatch h⟩ ?_ ?_)
    · rintro i k8 T ti tc8 ⟨dat, led⟩ u h tk own hk9 hT ⟨hR, hA⟩ hoff F8 N8
      dsimp only at hR hA hoff N8 F8
      simp only [kstB] at F8
      have hok8 := rdFold_ok (rd0_ok h1 h2 h3 h4) (b.toList.take i)
      have hrl8 := rdFold_rows (rd0_ok h1 h2 h3 h4) (b.toList.take i)
      have hR' := rdAt_own hR hoff
      obtain ⟨dx, Fa, Pa, t1, t2, t3, t4, t5, t6, tm, tl, fs, ps, vv, n1, n2, rfl, -⟩ := hR
      simp only [List.cons_append] at N8 hR'
      k_steps
      · -- at == cut
        have hib : i < b.size := (Array.getElem?_eq_some_iff.mp hk9).1
        have hcut := (by assumption : (i : Int) = cut)
        subst hcut
        k_dflt (refine KBy.slice_N (s := ⟨_, _, _, _, _⟩) (by k_asm) (by k_asm) (by constructor) (by constructor) (bslice_whole hib) ?_ ?_)
        · rw [bslice_take hib]; simp only [List.size_toArray, List.length_take, Array.length_toList]; omega
        · intro h7 t7 k7 F7 N7
          rw [bslice_take hib]
          have hz7 : (b.toList.take i).toArray.size ≤ 120 := by simp only [List.size_toArray, List.length_take, Array.length_toList]; omega
          have hst : OgStop := trivial
          k_steps
          · refine Stop.mk ?_
            rename News _ _ _ _ => N9
            have N9' := news_of_rd hR' N9 (by k_extra "OG sub")
            k_steps
            all_goals try (k_extra "OG took")
            all_goals
              rename RdAt _ _ (rdPut _ _) _ _ _ => hR9'
              have hs9' := (by assumption : ∀ p ∈ dat ++ news ++ own, p ∈ _)
              have hd9' := (by assumption : ∀ p ∈ _, p ∈ dat ∨ ∀ q ∈ dat ++ news ++ own, q.1 ≠ p.1)
              obtain ⟨led2, hR2, hs2, ho2⟩ := rdAt_next (news := news) (own := own) hR9' (fun p hp => hs9' p (by rcases List.mem_append.mp hp with hp | hp; exact List.mem_append_left _ (List.mem_append_right _ hp); exact List.mem_append_right _ hp)) hd9' (fun p hp => List.mem_append_right _ hp)
                (fun p hp b hb => hoff p hp b (by simp only [List.map_cons, List.mem_cons, List.map_append, List.mem_append]; exact .inr (.inr (.inr (.inr (.inl hb))))))
                (fun p hp b hb => hoff p hp b (by simp only [List.map_cons, List.mem_cons, List.map_append, List.mem_append]; exact .inr (.inr (.inr (.inr (.inr hb))))))
              have hJ1 := hR2
              rw [← rdFold_snoc, ← take_snoc' (by rw [Array.getElem?_toList]; exact hk9)] at hJ1
              have hJ2 := fun (p : Addr × Obj) hp (q : Addr × Obj) (hq : q ∈ news) => show q.1 ≠ p.1 from Or.elim (hd9' p hp) (fun h => hA p h q hq) (fun h => h q (List.mem_append_left _ (List.mem_append_right _ hq)))
              exact lend (_, led2) (by k_asm) (by k_asm) hs2 ho2 (fun _ h => nomatch h) (by k_extra "OG same") ⟨hJ1, hJ2⟩
          · exact absurd (hR (b.toList.take i)) (by first | assumption | exact of_decide_eq_false (by assumption))
      all_goals try (k_extra "OG took")
      all_goals
        rename RdAt _ _ (rdPut _ _) _ _ _ => hR9'
        have hs9' := (by assumption : ∀ p ∈ dat ++ news ++ own, p ∈ _)
        have hd9' := (by assumption : ∀ p ∈ _, p ∈ dat ∨ ∀ q ∈ dat ++ news ++ own, q.1 ≠ p.1)
        obtain ⟨led2, hR2, hs2, ho2⟩ := rdAt_next (news := news) (own := own) hR9' (fun p hp => hs9' p (by rcases List.mem_append.mp hp with hp | hp; exact List.mem_append_left _ (List.mem_append_right _ hp); exact List.mem_append_right _ hp)) hd9' (fun p hp => List.mem_append_right _ hp)
          (fun p hp b hb => hoff p hp b (by simp only [List.map_cons, List.mem_cons, List.map_append, List.mem_append]; exact .inr (.inr (.inr (.inr (.inl hb))))))
          (fun p hp b hb => hoff p hp b (by simp only [List.map_cons, List.mem_cons, List.map_append, List.mem_append]; exact .inr (.inr (.inr (.inr (.inr hb))))))
        have hJ1 := hR2
        rw [← rdFold_snoc, ← take_snoc' (by rw [Array.getElem?_toList]; exact hk9)] at hJ1
        have hJ2 := fun (p : Addr × Obj) hp (q : Addr × Obj) (hq : q ∈ news) => show q.1 ≠ p.1 from Or.elim (hd9' p hp) (fun h => hA p h q hq) (fun h => h q (List.mem_append_left _ (List.mem_append_right _ hq)))
        exact lend (_, led2) (by k_asm) (by k_asm) hs2 ho2 (fun _ h => nomatch h) (by k_extra "OG same") ⟨hJ1, hJ2⟩
    · rintro ⟨dat, led⟩ u h tk ⟨hR8, hA⟩ F8 N8
      have et : b.toList.take b.size = b.toList := by rw [← Array.length_toList]; exact List.take_length
      dsimp only at hR8 hA N8 F8
      rw [et] at hR8
      simp only [kstB] at F8
      have hok := rdFold_ok (rd0_ok h1 h2 h3 h4) b.toList
      have hrl := rdFold_rows (rd0_ok h1 h2 h3 h4) b.toList
      have hRc := hR8
      obtain ⟨dx, Fa, Pa, t1, t2, t3, t4, t5, t6, tm, tl, fs, ps, vv, n1, n2, rfl, -, o1, o2, o3, o4, -⟩ := hR8
      have hok0 : RdOk (rd0 (rdFold most limit b.toList).most (rdFold most limit b.toList).limit) := rd0_ok hok.m1 hok.m2 hok.l1 hok.l2
      have hrl0 : ∀ x ∈ (rd0 (rdFold most limit b.toList).most (rdFold most limit b.toList).limit).found, x.length ≤ 100 := fun _ h => nomatch h
      have hst : OgStop := trivial
      k_steps
      · refine Stop.mk ?_
        rename News _ _ _ _ => N9
        have N9' := news_of_rd hRc N9 (by k_extra "OG sub")
        k_steps
        rename RdAt _ _ (rd0 (Rd.most _) _) _ _ _ => hRz
        have hRz' := hRz
        obtain ⟨dy, Fb, Pb, u1, u2, u3, u4, u5, u6, um, ul, gs, qs, vw, k1, k2, rfl, -⟩ := hRz
        k_steps
        have hs8 := (by assumption : ∀ p ∈ dat ++ news, p ∈ _)
        exact hret _ news _ _ (by k_asm) (news_sub (by k_asm) (fun p hp => (by k_extra "OG sub" : ∀ q ∈ _, q ∈ _) p (hs8 p (List.mem_append_right _ hp)))) ⟨rfl, congrArg Value.bool (decide_eq_true rfl)⟩
      · exact absurd (show rdParams (rdFold most limit b.toList) = readR most limit b.toList from rfl) (by first | assumption | exact of_decide_eq_false (by assumption))
  · exact absurd (show rdParams (rd0 most limit) = [] from rfl) (by first | assumption | exact of_decide_eq_false (by assumption))
theorem dall_ints {led : Led} {vs : List Value} {ns : List Int} (h : IntsAre vs ns) : DatAll led vs (ns.map Dat.int) := by
  induction h with
  | nil => exact .nil
  | cons n t _ ih => exact .cons (.int _ _) ih
theorem ints_dall {led : Led} : ∀ {vs : List Value} {ns : List Int}, DatAll led vs (ns.map Dat.int) → IntsAre vs ns
  | [], [], _ => .nil
  | _ :: _, [], h => nomatch h
  | [], _ :: _, h => nomatch h
  | _ :: _, _ :: _, h => by
    cases h with
    | cons a r =>
      cases a with
      | int n t => exact .cons _ _ (ints_dall r)
theorem cell_in (ns : List Int) : ∀ k ∈ ns.map (fun n => n.fmod 1000003), 0 ≤ k ∧ k < 1000003 := fun k hk => by
  obtain ⟨n, _, rfl⟩ := List.mem_map.mp hk
  rw [Int.fmod_eq_emod_of_nonneg _ (by decide)]
  exact ⟨Int.emod_nonneg _ (by decide), Int.emod_lt_of_pos _ (by decide)⟩
theorem law_start {h₀ h : Heap} {L W nu : Addr} {ys : List Value} {t1 t2 : Tok} {n : Nat} {rest : Led} {z : Int} (N : News h₀ L h ((W, listOf #[.ref nu, .int 0 t1, .int (z.fmod 9967 + 75) t2] n) :: (nu, LCg.lst ys) :: rest)) :
    ∃ stir nn, (0 ≤ stir ∧ stir ≤ 200000) ∧ News h₀ L h ((W, wellO nu 0 stir t1 t2 n) :: (nu, listOf ys.toArray nn) :: []) := by
  refine ⟨z.fmod 9967 + 75, _, ?_, news_sub N (sub_cons (.head _) (sub_cons (.tail _ (.head _)) sub_nil))⟩
  rw [Int.fmod_eq_emod_of_nonneg _ (by decide)]
  have := Int.emod_nonneg z (show (9967 : Int) ≠ 0 by decide)
  have := Int.emod_lt_of_pos z (show (0 : Int) < 9967 by decide)
  omega
theorem cells_ok {ys : List Value} {ns : List Int} (h : IntsAre ys ((ns.take 30).map fun n => n.fmod 1000003)) : ∃ ns' : List Int, IntsAre ys ns' ∧ (∀ k ∈ ns', 0 ≤ k ∧ k < 1000003) ∧ ns'.length ≤ 63 :=
  ⟨_, h, cell_in _, by rw [List.length_map, List.length_take]; omega⟩
/-- what the law reads, and within what -/
structure Due (most limit : Int) (b : List UInt8) (R : List (List (Option Int))) : Prop where
  eq : lawRead most limit b = R
  h1 : 1 ≤ most
  h2 : most ≤ 4
  h3 : 0 ≤ limit
  h4 : limit ≤ 65535
theorem Due.tame {most limit : Int} {b : List UInt8} {R : List (List (Option Int))} (h : Due most limit b R) : Tame R := by
  obtain ⟨rfl, h1, h2, h3, h4⟩ := h
  exact lawRead_Tame h1 (by omega) h3 (by omega) b
theorem Due.all {most limit : Int} {b : List UInt8} {R : List (List (Option Int))} (h : Due most limit b R) : (R.length : Int) ≤ most ∧ ∀ r ∈ R, r ≠ [] ∧ (r.length : Int) ≤ most ∧ ∀ i, some i ∈ r → 0 ≤ i ∧ i ≤ limit := by
  obtain ⟨rfl, h1, h2, h3, h4⟩ := h
  exact lawRead_tame h1 (by omega) h3 (by omega) b
theorem Due.len {most limit : Int} {b : List UInt8} {R : List (List (Option Int))} (h : Due most limit b R) : R.length ≤ 4 := by
  have := h.all.1
  have := h.h2
  omega
theorem Due.lt {most limit : Int} {b : List UInt8} {R : List (List (Option Int))} (h : Due most limit b R) : R.length < 1048576 := Nat.lt_of_le_of_lt h.len (by decide)
theorem lread_con3 (news : Led) (b : Array UInt8) (tb : Tok) (most limit : Int) (tm tl : Tok) (h1 : 1 ≤ most) (h2 : most ≤ 4) (h3 : 0 ≤ limit) (h4 : limit ≤ 65535) (hz : b.size ≤ 120) :
    Con 3 195 news [.bytes b tb, .int most tm, .int limit tl] (fun news' r => ∃ R, Due most limit b.toList R ∧ Grown news (rowsD R) news' r) := by
  intro w mean mg mb dp un gd cn cs a ccd cl outer A₀ base h₀ L m s Q E B F X N T hk hd hu hret
  exact law_read_con news b tb most limit tm tl h1 (by omega) h3 (by omega) hz w mean mg mb dp un gd cn cs a ccd cl outer A₀ base h₀ L m s Q E B F X N T hk hd hu fun r n h t F N P => hret r n h t F N ⟨_, ⟨rfl, h1, h2, h3, h4⟩, P⟩
theorem read_con3 (news : Led) (b : Array UInt8) (tb : Tok) (most limit : Int) (tm tl : Tok) (R : List (List (Option Int))) (h : Due most limit b.toList R) :
    Con 6 91 news [.bytes b tb, .int most tm, .int limit tl] (Grown news (rowsD R)) := by
  obtain ⟨rfl, h1, h2, h3, h4⟩ := h
  rw [← read_law h1 h3]
  exact read_params_con news b tb most limit tm tl h1 (by omega) h3 (by omega)
/-- the octets written, as one thing -/
structure Wrote (R : List (List (Option Int))) (W : Array UInt8) : Prop where
  eq : paramsB R = W
  sz : W.size ≤ 1048576
theorem read_con4 (news : Led) (b0 : List UInt8) (W : Array UInt8) (tb : Tok) (most limit : Int) (tm tl : Tok) (R : List (List (Option Int))) (h : Due most limit b0 R) (hW : Wrote R W) :
    Con 6 91 news [.bytes W tb, .int most tm, .int limit tl] (Grown news (rowsD (if R = [[none]] then [] else R))) := by
  obtain ⟨rfl, -⟩ := hW
  have ha := h.all
  have h1 := h.h1
  have h2 := h.h2
  have h3 := h.h3
  have h4 := h.h4
  rw [← read_back h1 h3 ha.1 ha.2]
  exact read_params_con news _ tb most limit tm tl h1 (by omega) h3 (by omega)
theorem octets_con3 (news : Led) (v : Value) (R : List (List (Option Int))) (hD : DatIn news v (rowsD R)) (hT : Tame R) : Con 3 103 news [v] (fun news' r => news' = news ∧ ∃ W t, Wrote R W ∧ r = .bytes W t) := by
  intro w mean mg mb dp un gd cn cs a ccd cl outer A₀ base h₀ L m s Q E B F X N T hk hd hu hret
  exact params_octets_con news v R hD hT w mean mg mb dp un gd cn cs a ccd cl outer A₀ base h₀ L m s Q E B F X N T hk hd hu fun r n h t F N ⟨e, t1, e1⟩ => hret r n h t F N ⟨e, _, t1, ⟨rfl, Nat.le_trans (paramsB_size hT) (by decide)⟩, e1⟩
theorem written_con3 (news : Led) (v : Value) (R : List (List (Option Int))) (W : Array UInt8) (hD : DatIn news v (rowsD R)) (hT : Tame R) (hW : Wrote R W) : Con 3 200 news [v] (fun news' r => news' = news ∧ ∃ t, r = .bytes W t) := by
  obtain ⟨rfl, -⟩ := hW
  exact law_written_con news v R hD hT
theorem shown_con3 (news : Led) (v : Value) (R : List (List (Option Int))) (W : Array UInt8) (hD : DatIn news v (rowsD R)) (hT : Tame R) (hW : Wrote R W) : Con 4 155 news [v] (fun news' r => news' = news ∧ ∃ t, r = .int (W.size : Int) t) := by
  obtain ⟨rfl, -⟩ := hW
  exact params_shown_con news v R hD hT
theorem pieces_con3 (news : Led) (b : Array UInt8) (tb : Tok) (most limit cut : Int) (tm tl tc : Tok) (v : Value) (R : List (List (Option Int))) (h : Due most limit b.toList R) (hz : b.size ≤ 120) (hc0 : 0 ≤ cut) (hc1 : cut ≤ (b.size : Int))
    (hD : DatIn news v (rowsD R)) :
    Con 8 214 news [.bytes b tb, .int most tm, .int limit tl, .int cut tc, v] (fun news' r => news' = news ∧ r = .bool true) := by
  obtain ⟨rfl, h1, h2, h3, h4⟩ := h
  exact law_pieces_con news b tb most limit cut tm tl tc v h1 (by omega) h3 (by omega) hz hc0 hc1 (by rw [read_law h1 h3]; exact hD) (fun l => read_law h1 h3 l)
theorem well_two {h₀ h : Heap} {L W nu : Addr} {ys : List Value} {i stir : Int} {t1 t2 : Tok} {n nn : Nat} {x y : Addr × Obj} {rest : Led} (N : News h₀ L h (x :: y :: (W, wellO nu i stir t1 t2 n) :: (nu, listOf ys.toArray nn) :: rest)) :
    News h₀ L h ((W, wellO nu i stir t1 t2 n) :: (nu, listOf ys.toArray nn) :: []) := news_sub N (sub_cons (.tail _ (.tail _ (.head _))) (sub_cons (.tail _ (.tail _ (.tail _ (.head _)))) sub_nil))
theorem menu_in (k : Nat) : 0 ≤ ([9, 65535, 255, 0] : List Int).getD k 0 ∧ ([9, 65535, 255, 0] : List Int).getD k 0 ≤ 65535 := by
  match k with
  | 0 => decide
  | 1 => decide
  | 2 => decide
  | 3 => decide
  | k + 4 => exact ⟨Int.le_refl _, (by decide : (0 : Int) ≤ 65535)⟩
theorem menu_of {h₀ h : Heap} {L D : Addr} {a : Value} {k : Nat} {t : Tok} {c : Value} {rest : Led} (_ : News h₀ L h ((D, { cls := c, data := .seq #[a, .int (([9, 65535, 255, 0] : List Int).getD k 0) t] }) :: rest)) :
    0 ≤ ([9, 65535, 255, 0] : List Int).getD k 0 ∧ ([9, 65535, 255, 0] : List Int).getD k 0 ≤ 65535 := menu_in k
noncomputable def OgAt (_ : Nat) : Prop := True
/-- the first column -/
noncomputable def colR (R : List (List (Option Int))) : List (Option Int) := R.map fun r => r[0]?.join
theorem head_none {led : Led} {y : List (Option Int)} (h : y[Int.toNat 0]? = some none) : DatIn led .none (optD (y[0]?.join)) := by
  have e : y[0]? = some none := h
  rw [e]; exact .none
theorem head_int {led : Led} {y : List (Option Int)} {j : Int} {t : Tok} (h : y[Int.toNat 0]? = some (some j)) : DatIn led (.int j t) (optD (y[0]?.join)) := by
  have e : y[0]? = some (some j) := h
  rw [e]; exact .int _ _
theorem Due.row {most limit : Int} {b : List UInt8} {R : List (List (Option Int))} (h : Due most limit b R) {i : Nat} {y : List (Option Int)} (hy : R[i]? = some y) : 0 < (y.length : Int) ∧ y.length < 1048576 := by
  have ha := h.all.2 y (List.mem_of_getElem? hy)
  have := h.h2
  have := List.length_pos_iff.mpr ha.1
  omega
theorem plain_in {h₀ h : Heap} {L D : Addr} {led : Led} {ys : List Value} {ds : List Dat} (_ : News h₀ L h ((D, LCg.lst ys) :: led)) (hd : DatAll led ys ds) : ∃ us n, (D, listOf us.toArray n) ∈ (D, LCg.lst ys) :: led ∧ DatAll ((D, LCg.lst ys) :: led) us ds :=
  ⟨ys, _, .head _, hd.mono fun _ h => .tail _ h⟩
theorem col_vals (R : List (List (Option Int))) : ((List.range R.length).map fun i => Dat.int (plainOf R (i : Nat) 0)) = ((colR R).map fun o => o.getD 0).map Dat.int := by
  unfold colR
  rw [List.map_map, List.map_map]
  apply List.ext_getElem
  · simp
  · intro i h1 h2
    simp only [List.length_map, List.length_range] at h1
    simp [plainOf, h1]
theorem values_con2 (news : Led) (v : Value) (R : List (List (Option Int))) (hD : DatIn news v (rowsD R)) (hs : Small R) (hz : R.length < 1048576) : Con 2 148 news [v] (Grown news (.list (((colR R).map fun o => o.getD 0).map Dat.int))) := by
  rw [← col_vals]
  exact values_of_con news v R hD hs hz
theorem dint_inj : ∀ (a b : Int), Dat.int a = Dat.int b → a = b := fun a b h => by injection h
theorem ints_ok (ns : List Int) : ∀ d ∈ ns.map Dat.int, kqdOk 8 d = true := fun d hd => by
  obtain ⟨o, _, rfl⟩ := List.mem_map.mp hd
  rfl
noncomputable def Kept (s : Shared) (h₀ : Heap) (L : Addr) (m : Str → Option Value) (news : Led) (fl : Flow) (s' : Shared) : Prop := fl = .next ∧ ∃ h tk, s' = { s with heap := h, toks := tk } ∧ Fr h₀ L h m ∧ News h₀ L h news
theorem kept {s : Shared} {h₀ h : Heap} {tk : Nat} {L : Addr} {m : Str → Option Value} {news : Led} (F : Fr h₀ L h m) (N : News h₀ L h news) : Kept s h₀ L m news .next { s with heap := h, toks := tk } := ⟨rfl, h, tk, rfl, F, N⟩
theorem cut_if {prog : Program} {w : World} {A : Around} {c : Sem Flow} {Q : Flow → Shared → Prop} {E : Value → Shared → Prop} {s : Shared} {h₀ : Heap} {L : Addr} {m : Str → Option Value} {news : Led} (_ : Fr h₀ L s.heap m) (_ : News h₀ L s.heap news)
    (main : wpAny (model prog w) A c (Kept s h₀ L m news) E s)
    (cont : ∀ h tk, Fr h₀ L h m → News h₀ L h news → Q .next { s with heap := h, toks := tk }) : wpAny (model prog w) A c Q E s :=
  wpAny_mono main (fun _ _ h => by obtain ⟨rfl, h', tk, rfl, F', N'⟩ := h; exact cont h' tk F' N') fun _ _ h => h
theorem dall_nn {led : Led} {l : Addr} {n : Nat} (hm : (l, listOf #[Value.none] n) ∈ led) : DatAll led [.ref l] (([[none]] : List (List (Option Int))).map rowD) := .cons (DatIn.list (vs := [.none]) hm (.cons .none .nil)) .nil
theorem back_ne {R : List (List (Option Int))} (h1 : ¬ R = [[none]]) (h2 : ¬ (if R = [[none]] then [] else R) = R) : False := by
  rw [if_neg h1] at h2
  exact h2 rfl
theorem back_eq {R : List (List (Option Int))} (h1 : R = [[none]]) (h2 : ¬ (if R = [[none]] then [] else R) = []) : False := by
  rw [if_pos h1] at h2
  exact h2 rfl
theorem bne_no {α : Type} [BEq α] [LawfulBEq α] {x : α} (h : (x != x) = true) : False := by rw [bne_self_eq_false] at h; cases h
theorem dat_drop_row {W nu : Addr} {i st : Int} {t1 t2 : Tok} {n : Nat} {rest : Led} {v : Value} {r : List (Option Int)} (h : DatIn ((W, wellO nu i st t1 t2 n) :: rest) v (rowD r)) : DatIn rest v (rowD r) := by
  have key : ∀ (vs : List Value) (os : List (Option Int)), DatAll ((W, wellO nu i st t1 t2 n) :: rest) vs (os.map optD) → DatAll rest vs (os.map optD) := by
    intro vs
    induction vs with
    | nil => intro os h; cases os with
      | nil => exact .nil
      | cons o os => cases h
    | cons v vs ih => intro os h; cases os with
      | nil => cases h
      | cons o os => cases h with
        | cons a b =>
          refine .cons ?_ (ih os b)
          rcases dat_opt a with ⟨rfl, rfl⟩ | ⟨j, t, rfl, rfl⟩
          · exact .none
          · exact .int _ _
  obtain ⟨a, vs, k, rfl, hm, hv⟩ := dat_list h
  refine DatIn.list (n := k) ?_ (key vs r hv)
  rcases List.mem_cons.mp hm with e | hm
  · have e2 := congrArg (fun o : Obj => o.data) (congrArg Prod.snd e)
    have e4 : vs = [.ref nu, .int i t1, .int st t2] := by
      injection e2 with e3
      simpa using congrArg Array.toList e3
    subst e4
    cases r with
    | nil => cases hv
    | cons o r => cases hv with
      | cons a b => rcases dat_opt a with ⟨h, _⟩ | ⟨j, t, h, _⟩ <;> cases h
  · exact hm
theorem dat_drop {W nu : Addr} {i st : Int} {t1 t2 : Tok} {n : Nat} {rest : Led} {v : Value} {R : List (List (Option Int))} (h : DatIn ((W, wellO nu i st t1 t2 n) :: rest) v (rowsD R)) : DatIn rest v (rowsD R) := by
  have key : ∀ (vs : List Value) (os : List (List (Option Int))), DatAll ((W, wellO nu i st t1 t2 n) :: rest) vs (os.map rowD) → DatAll rest vs (os.map rowD) := by
    intro vs
    induction vs with
    | nil => intro os h; cases os with
      | nil => exact .nil
      | cons o os => cases h
    | cons v vs ih => intro os h; cases os with
      | nil => cases h
      | cons o os => cases h with
        | cons a b => exact .cons (dat_drop_row a) (ih os b)
  obtain ⟨a, vs, k, rfl, hm, hv⟩ := dat_list h
  refine DatIn.list (n := k) ?_ (key vs R hv)
  rcases List.mem_cons.mp hm with e | hm
  · have e2 := congrArg (fun o : Obj => o.data) (congrArg Prod.snd e)
    have e4 : vs = [.ref nu, .int i t1, .int st t2] := by
      injection e2 with e3
      simpa using congrArg Array.toList e3
    subst e4
    cases R with
    | nil => cases hv
    | cons o R => cases hv with
      | cons a b => cases R with
        | nil => cases b
        | cons o2 R => cases b with
          | cons a2 b2 => cases a2
  · exact hm
theorem dat_drop1 {W nu : Addr} {i st : Int} {t1 t2 : Tok} {n : Nat} {x : Addr × Obj} {l1 : Led} {v : Value} {R : List (List (Option Int))} (h : DatIn ([(W, wellO nu i st t1 t2 n), x] ++ l1) v (rowsD R)) : DatIn (x :: l1) v (rowsD R) := dat_drop h
theorem dat_drop2 {W nu : Addr} {i st : Int} {t1 t2 : Tok} {n : Nat} {x : Addr × Obj} {l1 l2 : Led} {v : Value} {R : List (List (Option Int))} (h : DatIn ([(W, wellO nu i st t1 t2 n), x] ++ l1 ++ l2) v (rowsD R)) : DatIn (x :: (l1 ++ l2)) v (rowsD R) := dat_drop h
theorem news_drop {h₀ h : Heap} {L : Addr} {x : Addr × Obj} {r tl : Led} (N : News h₀ L h ((x :: r) ++ tl)) : News h₀ L h r := news_sub N (fun _ hp => List.mem_append_left _ (.tail _ hp))
theorem apart_head {W : Addr} {o : Obj} {r tl : Led} (h : Apart ((W, o) :: r) tl) : ∀ p ∈ tl, p.1 ≠ W := fun p hp => h p hp _ (.head _)
theorem apart_head2 {W : Addr} {o : Obj} {r t1 tl : Led} (h : Apart (((W, o) :: r) ++ t1) tl) : ∀ p ∈ tl, p.1 ≠ W := fun p hp => h p hp _ (.head _)
theorem apart_head3 {W : Addr} {o : Obj} {r t1 t2 tl : Led} (h : Apart (((W, o) :: r) ++ t1 ++ t2) tl) : ∀ p ∈ tl, p.1 ≠ W := fun p hp => h p hp _ (.head _)
theorem off1_ne {D W : Addr} {o : Obj} {r tl : Led} (h : LCg.Off1 D (((W, o) :: r) ++ tl)) : @Ne Nat D W := fun e => off1_mem h _ (List.mem_append_left _ (.head _)) e.symm
theorem lines_f32 : True := by
  k_with "call ref" => first | ((k_here; (with_reducible show wpAny _ _ (call (Value.ref 103) _ _) _ _ _); k_dflt (refine' con_use (octets_con3 _ _ _ ?oghD ?oghT) ?ogB ?ogF ?ogX ?ogN ?ogT ?ogkk ?ogd ?ogu ?_; (case ogN => k_asm); (case oghD => k_extra "OG dat"); (case oghT => assumption); k_extra "OG use"; k_whole); k_dflt (intro qqr9 qqnw9 qqh9 qqtk9 qqF9 qqN9 qqP9; obtain ⟨qqe9, qqW9, qqt9, qqhW9, qqe9'⟩ := qqP9; (replace qqe9 := qqe9.symm); subst qqe9; subst qqe9'; have qqhz9 := qqhW9.sz); (try dsimp only); (try k_fold))) | fail "no line"
  k_with "call ref" => first | ((k_here; (with_reducible show wpAny _ _ (call (Value.ref 200) _ _) _ _ _); k_dflt (refine' con_use (written_con3 _ _ _ _ ?oghD ?oghT ?oghW) ?ogB ?ogF ?ogX ?ogN ?ogT ?ogkk ?ogd ?ogu ?_; (case ogN => k_asm); (case oghD => k_extra "OG dat"); (case oghT => assumption); (case oghW => assumption); k_extra "OG use"; k_whole); k_dflt (intro qqr9 qqnw9 qqh9 qqtk9 qqF9 qqN9 qqP9; obtain ⟨qqe9, qqt9, qqe9'⟩ := qqP9; (replace qqe9 := qqe9.symm); subst qqe9; subst qqe9'); (try dsimp only); (try k_fold))) | fail "no line"
  k_with "call ref" => first | ((k_here; (with_reducible show wpAny _ _ (call (Value.ref 155) _ _) _ _ _); k_dflt (refine' con_use (shown_con3 _ _ _ _ ?oghD ?oghT ?oghW) ?ogB ?ogF ?ogX ?ogN ?ogT ?ogkk ?ogd ?ogu ?_; (case ogN => k_asm); (case oghD => k_extra "OG dat"); (case oghT => assumption); (case oghW => assumption); k_extra "OG use"; k_whole); k_dflt (intro qqr9 qqnw9 qqh9 qqtk9 qqF9 qqN9 qqP9; obtain ⟨qqe9, qqt9, qqe9'⟩ := qqP9; (replace qqe9 := qqe9.symm); subst qqe9; subst qqe9'); (try dsimp only); (try k_fold))) | fail "no line"
  k_with "call ref" => first | ((k_here; (with_reducible show wpAny _ _ (call (Value.ref 91) _ _) _ _ _); k_dflt (refine' con_use (read_con3 _ _ _ _ _ _ _ _ ?oghu) ?ogB ?ogF ?ogX ?ogN ?ogT ?ogkk ?ogd ?ogu ?_; (case ogN => k_asm); (case oghu => assumption); k_extra "OG use"; k_whole); k_dflt (intro qqr9 qqnw9 qqh9 qqtk9 qqF9 qqN9 qqP9; obtain ⟨qqtl9, qqe9, qqha9, qqhd9⟩ := qqP9; subst qqe9; obtain ⟨qqb9, qqvs9, qqn9, qqe9', qqhm9, qqhv9⟩ := dat_list qqhd9; subst qqe9'); (try dsimp only); (try k_fold))) | fail "no line"
  k_with "call ref" => first | ((k_here; (with_reducible show wpAny _ _ (call (Value.ref 91) _ _) _ _ _); k_dflt (refine' con_use (read_con4 _ _ _ _ _ _ _ _ _ ?oghu ?oghW) ?ogB ?ogF ?ogX ?ogN ?ogT ?ogkk ?ogd ?ogu ?_; (case ogN => k_asm); (case oghW => assumption); (case oghu => assumption); k_extra "OG use"; k_whole); k_dflt (intro qqr9 qqnw9 qqh9 qqtk9 qqF9 qqN9 qqP9; obtain ⟨qqtl9, qqe9, qqha9, qqhd9⟩ := qqP9; subst qqe9; obtain ⟨qqb9, qqvs9, qqn9, qqe9', qqhm9, qqhv9⟩ := dat_list qqhd9; subst qqe9'); (try dsimp only); (try k_fold))) | fail "no line"
  k_with "call ref" => first | ((k_here; (with_reducible show wpAny _ _ (call (Value.ref 214) _ _) _ _ _); k_dflt (refine' con_use (pieces_con3 _ _ _ _ _ _ _ _ _ _ _ ?oghu ?oggz ?oggc ?oggd ?oghD) ?ogB ?ogF ?ogX ?ogN ?ogT ?ogkk ?ogd ?ogu ?_; (case ogN => k_asm); (case oghu => assumption); (case oggz => assumption); (case oggc => omega); (case oggd => omega); (case oghD => k_extra "OG dat"); k_extra "OG use"; k_whole); k_dflt (intro qqr9 qqnw9 qqh9 qqtk9 qqF9 qqN9 qqP9; obtain ⟨qqe9, qqe9'⟩ := qqP9; (replace qqe9 := qqe9.symm); subst qqe9; subst qqe9'); (try dsimp only); (try k_fold))) | fail "no line"
  k_with "call ref" => first | ((k_here; (with_reducible show wpAny _ _ (call (Value.ref 195) _ _) _ _ _); k_dflt (refine' con_use (lread_con3 _ _ _ _ _ _ _ ?ogg1 ?ogg2 ?ogg3 ?ogg4 ?oggz) ?ogB ?ogF ?ogX ?ogN ?ogT ?ogkk ?ogd ?ogu ?_; (case ogN => k_asm); (case ogg1 => omega); (case ogg2 => omega); (case ogg3 => omega); (case ogg4 => omega); (case oggz => assumption); k_extra "OG use"; k_whole); k_dflt (intro qqr9 qqnw9 qqh9 qqtk9 qqF9 qqN9 qqP9; obtain ⟨qqR9, qqhu9, qqtl9, qqe9, qqha9, qqhd9⟩ := qqP9; subst qqe9; obtain ⟨qqb9, qqvs9, qqn9, qqe9', qqhm9, qqhv9⟩ := dat_list qqhd9; subst qqe9'; have qqhT9 := qqhu9.tame; have qqhS9 := qqhT9.small; have qqhl9 := qqhu9.lt); (try dsimp only); (try k_fold))) | fail "no line"
  k_with "call ref" => first | ((k_here; (with_reducible show wpAny _ _ (call (Value.ref 148) _ _) _ _ _); k_dflt (refine' con_use (values_con2 _ _ _ ?oghD ?oghs ?oghz) ?ogB ?ogF ?ogX ?ogN ?ogT ?ogkk ?ogd ?ogu ?_; (case ogN => k_asm); (case oghD => k_extra "OG dat"); (case oghs => assumption); (case oghz => assumption); k_extra "OG use"; k_whole); k_dflt (intro qqr9 qqnw9 qqh9 qqtk9 qqF9 qqN9 qqP9; obtain ⟨qqtl9, qqe9, qqha9, qqhd9⟩ := qqP9; subst qqe9; obtain ⟨qqb9, qqvs9, qqn9, qqe9', qqhm9, qqhv9⟩ := dat_list qqhd9; subst qqe9'); (try dsimp only); (try k_fold))) | fail "no line"
  k_with "compareOp NotEq ref ref" => first | ((k_here; (with_reducible show wpAny _ _ (compareOp CmpOp.NotEq (Value.ref _) (Value.ref _)) _ _ _); k_dflt (refine' og_ne_gen (f := Dat.int) dint_inj ints_ok ?ognma ?ognDa ?ognmb ?ognDb ?ognN ?ogns1 ?ogns2 ?ognu ?_; (case ognN => k_asm); (case ogns1 => exact fun _ h => h); (case ogns2 => exact fun _ h => h); (case ognma => first | k_mem | k_extra "OG memh"); (case ognmb => first | k_mem | k_extra "OG memh"); (case ognDa => k_extra "OG datall"); (case ognDb => k_extra "OG datall"); (case ognu => k_extra "OG units"); k_whole))) | fail "no line"
  k_with "call ref" => first | (((with_reducible show wpAny _ _ (call (Value.ref 176) _ _) _ _ _); (with_reducible rename OgAt 176 => qqhst9); clear qqhst9; refine Stop.out ?_)) | fail "no line"
  k_with "call ref" => first | (((with_reducible show wpAny _ _ (call (Value.ref 183) _ _) _ _ _); (with_reducible rename OgAt 183 => qqhst9); clear qqhst9; refine Stop.out ?_)) | fail "no line"
  k_with "call ref" => first | (((with_reducible show wpAny _ _ (call (Value.ref 148) _ _) _ _ _); (with_reducible rename OgAt 148 => qqhst9); clear qqhst9; refine Stop.out ?_)) | fail "no line"
  k_with "call ref" => first | (((with_reducible show wpAny _ _ (call (Value.ref 195) _ _) _ _ _); (with_reducible rename OgAt 195 => qqhst9); clear qqhst9; refine Stop.out ?_)) | fail "no line"
  k_with "call ref" => first | (((with_reducible show wpAny _ _ (call (Value.ref 91) _ _) _ _ _); (with_reducible rename OgAt 91 => qqhst9); clear qqhst9; refine Stop.out ?_)) | fail "no line"
  k_with "call ref" => first | (((with_reducible show wpAny _ _ (call (Value.ref 214) _ _) _ _ _); (with_reducible rename OgAt 214 => qqhst9); clear qqhst9; refine Stop.out ?_)) | fail "no line"
  k_with "exec If" => first | (((with_reducible show wpAny _ _ (exec (PySem.Stmt.If _ _ _ _) _) _ _ _); (with_reducible rename OgAt 1 => qqhst9); clear qqhst9; refine Stop.out ?_)) | fail "no line"
  k_with "OG keep" => first | (exact kept (by k_asm) (news_sub (by k_asm) (by k_extra "OG sub"))) | fail "no line"
  k_with "OG end" => first | (first | k_extra "OG keep" | exact (bne_no (by assumption)).elim | exact absurd rfl (by assumption) | exact absurd rfl (of_decide_eq_false (by assumption)) | exact (back_ne (by assumption) (by assumption)).elim | exact (back_eq (by assumption) (of_decide_eq_false (by assumption))).elim | exact (back_ne (by assumption) (of_decide_eq_false (by assumption))).elim | exact (back_eq (by assumption) (by assumption)).elim) | fail "no line"
  k_with "OG datall" => first | (((with_reducible show DatAll _ [Value.ref _] (List.map rowD _)); exact dall_nn (by k_extra "OG mem"))) | fail "no line"
  k_with "call ref" => first | (((with_reducible show wpAny _ _ (call (Value.ref 200) _ _) _ _ _); (with_reducible rename OgAt 200 => qqhst9); clear qqhst9; refine Stop.out ?_)) | fail "no line"
  k_with "call ref" => first | (((with_reducible show wpAny _ _ (call (Value.ref 155) _ _) _ _ _); (with_reducible rename OgAt 155 => qqhst9); clear qqhst9; refine Stop.out ?_)) | fail "no line"
  trivial

section lawq
variable {prog : Program} {w : World} {A : Around} {E : Value → Shared → Prop} {s : Shared} {h₀ : Heap} {L : Addr} {m : Str → Option Value}
theorem dall_rep {led : Led} {v : Value} {r : List (Option Int)} (h : DatIn led v (rowD r)) : ∀ n : Nat, DatAll led (List.replicate n [v]).flatten ((List.replicate n r).map rowD)
  | 0 => .nil
  | n + 1 => by
    rw [List.replicate_succ, List.replicate_succ, List.flatten_cons, List.map_cons]
    exact .cons h (dall_rep h n)
/-- a list of one row, some times over -/
theorem og_mulD {l l2 : Addr} {n n2 : Nat} {x : Int} {u : Tok} {news : Led} {vs2 : List Value} {r : List (Option Int)} {Q : Value → Shared → Prop} (F : Fr h₀ L s.heap m) (N : News h₀ L s.heap news) (hm : (l, listOf [Value.ref l2].toArray n) ∈ news) (hm2 : (l2, listOf vs2.toArray n2) ∈ news) (hd2 : DatAll [] vs2 (r.map optD)) (h0 : 0 ≤ x) (h1 : x < 100)
    (h : ∀ D us h', Fr h₀ L h' m → News h₀ L h' ((D, listOf (List.toArray us) 0) :: news) → (∀ p ∈ news, p.1 < D) → DatAll [(l2, listOf vs2.toArray n2)] us ((List.replicate x.toNat r).map rowD) → Q (.ref D) { s with heap := h' }) :
    wpAny (model prog w) A (binaryOp .Mult (.ref l) (.int x u)) Q E s :=
  KMa.mul F N (News.isList N hm) (by omega) (by omega) (by rw [List.length_singleton]; omega) rfl fun D h' F' N' hl => h D _ h' F' N' hl (dall_rep (DatIn.list (.head _) (hd2.mono (fun p (h : p ∈ ([] : Led)) => nomatch h))) _)
/-- two lists put together -/
theorem og_catD {α : Type} {f : α → Dat} {a b : Addr} {na nb : Nat} {news la lb : Led} {vs us : List Value} {xs ys : List α} {Q : Value → Shared → Prop} (F : Fr h₀ L s.heap m) (N : News h₀ L s.heap news) (ma : (a, listOf vs.toArray na) ∈ news) (mb : (b, listOf us.toArray nb) ∈ news) (da : DatAll la vs (xs.map f)) (db : DatAll lb us (ys.map f)) (hz : xs.length + ys.length ≤ 16777216)
    (h : ∀ D zs h', Fr h₀ L h' m → News h₀ L h' ((D, listOf (List.toArray zs) 0) :: news) → (∀ p ∈ news, p.1 < D) → DatAll (la ++ lb) zs ((xs ++ ys).map f) → Q (.ref D) { s with heap := h' }) :
    wpAny (model prog w) A (binaryOp .Add (.ref a) (.ref b)) Q E s := by
  have e1 := da.length
  have e2 := db.length
  rw [List.length_map] at e1 e2
  refine add_lists F N (News.isList N ma) (News.isList N mb) (fun h' F' N' => h _ (vs ++ us) h' F' N' (fun p hp => Heap.lt_size (N p hp).1) ?_) (by rw [sizeLine_eq]; omega)
  rw [List.map_append]
  exact (da.mono fun _ h => List.mem_append_left _ h).append (db.mono fun _ h => List.mem_append_right _ h)
theorem dall_set {α : Type} {f : α → Dat} {led l2 : Led} {x : Value} {r : α} (hx : DatIn l2 x (f r)) : ∀ {vs : List Value} {xs : List α} (k : Nat), DatAll led vs (xs.map f) → DatAll (led ++ l2) (vs.set k x) ((xs.set k r).map f)
  | [], [], k, _ => by cases k <;> exact .nil
  | [], _ :: _, _, h => nomatch h
  | _ :: _, [], _, h => nomatch h
  | _ :: vs, _ :: xs, 0, h => by
    cases h with
    | cons a b => exact .cons (hx.mono fun _ h => List.mem_append_right _ h) (b.mono fun _ h => List.mem_append_left _ h)
  | _ :: vs, _ :: xs, k + 1, h => by
    cases h with
    | cons a b => exact .cons (a.mono fun _ h => List.mem_append_left _ h) (dall_set hx k b)
theorem og_setLast {B a : Addr} {k n : Nat} {t : Tok} {pre post led l3 : Led} {vs xs : List Value} {R : List (List (Option Int))} {r : List (Option Int)} {Q : Unit → Shared → Prop} (F : Fr h₀ L s.heap m) (N : News h₀ L s.heap (pre ++ (B, listOf vs.toArray k) :: post)) (hd : DatAll led vs (R.map rowD)) (hm : (a, listOf xs.toArray n) ∈ pre) (hx : DatAll l3 xs (r.map optD)) (h0 : 0 < R.length) (ha : ∀ p ∈ pre, p.1 ≠ B) (hb : ∀ p ∈ post, p.1 ≠ B) (hz : R.length < 1048576)
    (h : ∀ us h', Fr h₀ L h' m → News h₀ L h' (pre ++ (B, listOf (List.toArray us) k) :: post) → DatAll (led ++ (a, listOf xs.toArray n) :: l3) us ((R.set (R.length - 1) r).map rowD) → Q () { s with heap := h' }) : wpAny (model prog w) A (setItem (.ref B) (.int (-1) t) (.ref a)) Q E s := by
  have z := N (B, listOf vs.toArray k) (List.mem_append.mpr (.inr (.head _)))
  have e1 := hd.length
  rw [List.length_map] at e1
  have hs : vs.toArray.size = vs.length := List.size_toArray ..
  have ek : ((-1 : Int) + vs.toArray.size).toNat = R.length - 1 := by omega
  have hX : DatIn ((a, listOf xs.toArray n) :: l3) (.ref a) (rowD r) := DatIn.list (.head _) (hx.mono fun _ h => .tail _ h)
  refine ki_setBack z.1 (by decide) (by omega) (by decide) (h (vs.set (R.length - 1) (.ref a)) _ (F.change (Heap.SameBut.update ..) z.2.1 z.2.2) (ki_turn _ N ha hb ?_ ?_) (dall_set hX _ hd))
  · show vs.toArray.setIfInBounds ((-1 : Int) + vs.toArray.size).toNat (.ref a) = (vs.set (R.length - 1) (.ref a)).toArray
    rw [ek]
    apply Array.toList_inj.mp
    simp
  · simp
theorem og_setFirst {B a : Addr} {k n : Nat} {t : Tok} {pre post led l3 : Led} {vs xs : List Value} {R : List (List (Option Int))} {r : List (Option Int)} {Q : Unit → Shared → Prop} (F : Fr h₀ L s.heap m) (N : News h₀ L s.heap (pre ++ (B, listOf vs.toArray k) :: post)) (hd : DatAll led vs (R.map rowD)) (hm : (a, listOf xs.toArray n) ∈ pre) (hx : DatAll l3 xs (r.map optD)) (h0 : 0 < R.length) (ha : ∀ p ∈ pre, p.1 ≠ B) (hb : ∀ p ∈ post, p.1 ≠ B) (hz : R.length < 1048576)
    (h : ∀ us h', Fr h₀ L h' m → News h₀ L h' (pre ++ (B, listOf (List.toArray us) k) :: post) → DatAll (led ++ (a, listOf xs.toArray n) :: l3) us ((R.set 0 r).map rowD) → Q () { s with heap := h' }) : wpAny (model prog w) A (setItem (.ref B) (.int 0 t) (.ref a)) Q E s := by
  have z := N (B, listOf vs.toArray k) (List.mem_append.mpr (.inr (.head _)))
  have e1 := hd.length
  rw [List.length_map] at e1
  have hs : vs.toArray.size = vs.length := List.size_toArray ..
  have hX : DatIn ((a, listOf xs.toArray n) :: l3) (.ref a) (rowD r) := DatIn.list (.head _) (hx.mono fun _ h => .tail _ h)
  refine ki_setAt z.1 (by decide) (by decide) (by omega) (h (vs.set 0 (.ref a)) _ (F.change (Heap.SameBut.update ..) z.2.1 z.2.2) (ki_turn _ N ha hb ?_ ?_) (dall_set hX _ hd))
  · show vs.toArray.setIfInBounds ((0 : Int)).toNat (.ref a) = (vs.set 0 (.ref a)).toArray
    apply Array.toList_inj.mp
    simp
  · simp
theorem og_row_last {value slice : PySem.Expr} {l : Addr} {us : List Value} {rs : List (List (Option Int))} {n : Nat} {u : Tok} {news led : Led} {Q : Value → Shared → Prop} (N : News h₀ L s.heap news) (hm : (l, listOf us.toArray n) ∈ news) (hd : DatAll led us (rs.map rowD)) (h0 : 0 < rs.length)
    (h : ∀ b vs n' r, r ∈ rs → (b, listOf vs.toArray n') ∈ led → DatAll led vs (r.map optD) → Q (.ref b) s)
    (hsub : subscripted slice false (.ref l) (.int (-1) u) = operate [.ref l, .int (-1) u] (getItem (.ref l) (.int (-1) u))) :
    wpAny (model prog w) A (subscriptTail value slice (.ref l) (.int (-1) u)) Q E s := by
  have hl : s.heap.IsList l us.toArray := ⟨_, (N _ hm).1, rfl, n, rfl⟩
  have e : us.length = rs.length := by rw [hd.length, List.length_map]
  obtain ⟨v, hv, hD⟩ := hd.get (k := rs.length - 1) (by rw [List.length_map]; omega)
  obtain ⟨b, vs, n', rfl, hb, hvs⟩ := dat_list (show DatIn led v (rowD rs[rs.length - 1]) by simpa using hD)
  refine tail_any hl.typeIs slot_list_getitem.lookup (wpAny_getItem_list_neg (x := .ref b) hl (by decide) (by rw [List.size_toArray]; omega) (by decide) ?_ (h b vs n' _ (List.getElem_mem _) hb hvs)) hsub
  have e2 : ((-1 : Int) + us.toArray.size).toNat = rs.length - 1 := by rw [List.size_toArray]; omega
  rw [e2, List.getElem?_toArray]
  exact hv
theorem og_row_first {value slice : PySem.Expr} {l : Addr} {us : List Value} {rs : List (List (Option Int))} {n : Nat} {u : Tok} {news led : Led} {Q : Value → Shared → Prop} (N : News h₀ L s.heap news) (hm : (l, listOf us.toArray n) ∈ news) (hd : DatAll led us (rs.map rowD)) (h0 : 0 < rs.length)
    (h : ∀ b vs n' r, r ∈ rs → (b, listOf vs.toArray n') ∈ led → DatAll led vs (r.map optD) → Q (.ref b) s)
    (hsub : subscripted slice false (.ref l) (.int 0 u) = operate [.ref l, .int 0 u] (getItem (.ref l) (.int 0 u))) :
    wpAny (model prog w) A (subscriptTail value slice (.ref l) (.int 0 u)) Q E s := by
  refine kd_item N hm hd (by decide) (by rw [List.length_map]; omega) (by decide) (fun v d hk _ hD => ?_) hsub
  have e : d = rowD rs[0] := by
    have := hk
    simp [h0] at this
    exact this.symm
  subst e
  obtain ⟨b, vs, n', rfl, hb, hvs⟩ := dat_list hD
  exact h b vs n' _ (List.getElem_mem _) hb hvs
/-- a list and one row more, both put together -/
theorem og_catRow {a b l2 : Addr} {na nb n2 : Nat} {news la : Led} {vs vs2 : List Value} {xs : List (List (Option Int))} {r : List (Option Int)} {Q : Value → Shared → Prop} (F : Fr h₀ L s.heap m) (N : News h₀ L s.heap news) (ma : (a, listOf vs.toArray na) ∈ news) (mb : (b, listOf [Value.ref l2].toArray nb) ∈ news) (m2 : (l2, listOf vs2.toArray n2) ∈ news) (da : DatAll la vs (xs.map rowD)) (d2 : DatAll [] vs2 (r.map optD)) (hz : xs.length < 1048576)
    (h : ∀ D zs h', Fr h₀ L h' m → News h₀ L h' ((D, listOf (List.toArray zs) 0) :: news) → (∀ p ∈ news, p.1 < D) → DatAll (la ++ [(l2, listOf vs2.toArray n2)]) zs ((xs ++ [r]).map rowD) → Q (.ref D) { s with heap := h' }) :
    wpAny (model prog w) A (binaryOp .Add (.ref a) (.ref b)) Q E s :=
  og_catD (f := rowD) (ys := [r]) F N ma mb da (.one (DatIn.list (.head _) (d2.mono (fun p (h : p ∈ ([] : Led)) => nomatch h)))) (by rw [List.length_singleton]; omega) h
noncomputable def Neat (R : List (List (Option Int))) : Prop := R.length ≤ 50 ∧ ∀ r ∈ R, r.length ≤ 50 ∧ ∀ i, some i ∈ r → 0 ≤ i ∧ i < 10 ^ 18
theorem Neat.tame {R : List (List (Option Int))} (h : Neat R) : Tame R := ⟨by have := h.1; omega, fun r hr => ⟨by have := (h.2 r hr).1; omega, (h.2 r hr).2⟩⟩
theorem neat_row {R : List (List (Option Int))} {r : List (Option Int)} (h : Neat R) (hr : r ∈ R) : r.length ≤ 50 := (h.2 r hr).1
theorem Neat.app {R : List (List (Option Int))} (h : Neat R) (hz : R.length ≤ 4) {n : Nat} (hn : n ≤ 4) : Neat (R ++ List.replicate n [none]) := by
  refine ⟨by rw [List.length_append, List.length_replicate]; omega, fun x hx => ?_⟩
  rcases List.mem_append.mp hx with hx | hx
  · exact h.2 x hx
  · rw [(List.mem_replicate.mp hx).2]; exact ⟨by decide, fun i hi => by simp at hi⟩
theorem tame_set {R : List (List (Option Int))} {r : List (Option Int)} (h : Neat R) (hr : r.length ≤ 100) (hv : ∀ i, some i ∈ r → 0 ≤ i ∧ i < 10 ^ 18) (k : Nat) : Tame (R.set k r) := by
  refine ⟨by rw [List.length_set]; exact h.tame.1, fun x hx => ?_⟩
  rcases List.mem_or_eq_of_mem_set hx with hx | rfl
  · exact h.tame.2 x hx
  · exact ⟨hr, hv⟩
theorem tame_way1 {R : List (List (Option Int))} {r : List (Option Int)} {k : Nat} (h : Neat R) (hr : r ∈ R) : Tame (R.set k (r ++ [none])) := by
  have := neat_row h hr
  refine tame_set h (by rw [List.length_append, List.length_singleton]; omega) (fun i hi => ?_) k
  rcases List.mem_append.mp hi with hi | hi
  · exact (h.2 r hr).2 i hi
  · simp at hi
theorem tame_way2 {R : List (List (Option Int))} {r : List (Option Int)} {j k : Nat} (h : Neat R) (hr : r ∈ R) : Tame (R.set k ([some 5] ++ r.drop j)) := by
  have := neat_row h hr
  refine tame_set h (by rw [List.length_append, List.length_singleton, List.length_drop]; omega) (fun i hi => ?_) k
  rcases List.mem_append.mp hi with hi | hi
  · simp at hi; subst hi; decide
  · exact (h.2 r hr).2 i (List.mem_of_mem_drop hi)
theorem tame_way3 {R : List (List (Option Int))} (h : Neat R) : Tame (R ++ [[some 0]]) := by
  refine ⟨by have := h.1; rw [List.length_append, List.length_singleton]; omega, fun x hx => ?_⟩
  rcases List.mem_append.mp hx with hx | hx
  · exact h.tame.2 x hx
  · rw [List.mem_singleton.mp hx]; exact ⟨by decide, fun i hi => by simp at hi; subst hi; decide⟩
/-- the bent list, whichever way -/
noncomputable def Bent (s : Shared) (h₀ : Heap) (L : Addr) (m : Str → Option Value) (keep : Led) (fl : Flow) (s' : Shared) : Prop :=
  fl = .next ∧ ∃ h tk nw v R', s' = { s with heap := h, toks := tk } ∧ Fr h₀ L h (fun y => if y = Str.ofString "bent" then some v else m y) ∧ News h₀ L h nw ∧ (∀ p ∈ keep, p ∈ nw) ∧ DatIn nw v (rowsD R') ∧ Tame R'
theorem fr_same {h : Heap} {x : Str} {v : Value} (F : Fr h₀ L h m) (e : m x = some v) : Fr h₀ L h (fun y => if y = x then some v else m y) := by
  have : (fun y => if y = x then some v else m y) = m := funext fun y => by
    by_cases q : y = x
    · rw [if_pos q, q, e]
    · rw [if_neg q]
  rw [this]; exact F
theorem bent_old {h : Heap} {tk : Nat} {nw keep : Led} {v : Value} {R' : List (List (Option Int))} (F : Fr h₀ L h m) (e : m (Str.ofString "bent") = some v) (N : News h₀ L h nw) (hk : ∀ p ∈ keep, p ∈ nw) (hd : DatIn nw v (rowsD R')) (hT : Tame R') : Bent s h₀ L m keep .next { s with heap := h, toks := tk } := ⟨rfl, h, tk, nw, v, R', rfl, fr_same F e, N, hk, hd, hT⟩
theorem bent_new {h : Heap} {tk : Nat} {nw keep : Led} {v : Value} {R' : List (List (Option Int))} (F : Fr h₀ L h (fun y => if y = Str.ofString "bent" then some v else m y)) (N : News h₀ L h nw) (hk : ∀ p ∈ keep, p ∈ nw) (hd : DatIn nw v (rowsD R')) (hT : Tame R') : Bent s h₀ L m keep .next { s with heap := h, toks := tk } := ⟨rfl, h, tk, nw, v, R', rfl, F, N, hk, hd, hT⟩
theorem cut_bent {c : Sem Flow} {Q : Flow → Shared → Prop} (keep : Led) (_ : Fr h₀ L s.heap m)
    (main : wpAny (model prog w) A c (Bent s h₀ L m keep) E s)
    (cont : ∀ h tk nw v R', Fr h₀ L h (fun y => if y = Str.ofString "bent" then some v else m y) → News h₀ L h nw → (∀ p ∈ keep, p ∈ nw) → DatIn nw v (rowsD R') → Tame R' → Q .next { s with heap := h, toks := tk }) : wpAny (model prog w) A c Q E s :=
  wpAny_mono main (fun _ _ h => by obtain ⟨rfl, h', tk, nw, v, R', rfl, a, b, c, d, e⟩ := h; exact cont h' tk nw v R' a b c d e) fun _ _ h => h
end lawq
theorem dall_drop {W nu : Addr} {i st : Int} {t1 t2 : Tok} {n : Nat} {rest : Led} {vs : List Value} {R : List (List (Option Int))} (h : DatAll ((W, wellO nu i st t1 t2 n) :: rest) vs (R.map rowD)) : DatAll rest vs (R.map rowD) := by
  induction vs generalizing R with
  | nil => cases R with
    | nil => exact .nil
    | cons o R => cases h
  | cons v vs ih => cases R with
    | nil => cases h
    | cons o R => cases h with
      | cons a b => exact .cons (dat_drop_row a) (ih b)
theorem dall_drop1 {W nu : Addr} {i st : Int} {t1 t2 : Tok} {n : Nat} {r1 r2 : Led} {vs : List Value} {R : List (List (Option Int))} (h : DatAll (((W, wellO nu i st t1 t2 n) :: r1) ++ r2) vs (R.map rowD)) : DatAll (r1 ++ r2) vs (R.map rowD) := dall_drop h
theorem bent_start {h₀ h : Heap} {L B Dm l1 l2 Dc W nu : Addr} {ob om o1 o2 oc ow on : Obj} {r led k1 k2 : Led} {us v1 v2 : List Value} {R : List (List (Option Int))} {n : Nat} {d1 d2 : List Dat}
    (N : News h₀ L h ((B, ob) :: (Dm, om) :: (l1, o1) :: (l2, o2) :: (Dc, oc) :: (W, ow) :: (nu, on) :: r)) (hl : Dm < B ∧ l1 < B ∧ l2 < B ∧ Dc < B ∧ W < B ∧ nu < B ∧ AllLt B r) (hW : ∀ p ∈ (l2, o2) :: (nu, on) :: r, p.1 ≠ W)
    (hd : DatAll led us ((R ++ List.replicate n [none]).map rowD)) (hs : ∀ p ∈ led, p ∈ (l2, o2) :: (nu, on) :: r) (_ : DatAll k1 v1 d1) (_ : DatAll k2 v2 d2) (hk1 : ∀ p ∈ k1, p ∈ (l2, o2) :: (nu, on) :: r) (hk2 : ∀ p ∈ k2, p ∈ (l2, o2) :: (nu, on) :: r)
    (hT : Neat R) (hz : R.length ≤ 4) (hn : n ≤ 4) :
    ∃ (rest : Led) (Rb : List (List (Option Int))), News h₀ L h ((B, ob) :: (W, ow) :: rest) ∧ (@Ne Nat B W ∧ (∀ p ∈ rest, p.1 ≠ B) ∧ (∀ p ∈ rest, p.1 ≠ W)) ∧ DatAll rest us (Rb.map rowD) ∧ Neat Rb ∧ (∀ p ∈ k1, p ∈ rest) ∧ (∀ p ∈ k2, p ∈ rest) ∧ (nu, on) ∈ rest := by
  refine ⟨(l2, o2) :: (nu, on) :: r, R ++ List.replicate n [none], news_sub N ?_, ⟨Nat.ne_of_gt hl.2.2.2.2.1, ?_, hW⟩, hd.mono hs, hT.app hz hn, hk1, hk2, .tail _ (.head _)⟩
  · exact sub_cons (.head _) (sub_cons (.tail _ (.tail _ (.tail _ (.tail _ (.tail _ (.head _)))))) (sub_cons (.tail _ (.tail _ (.tail _ (.head _)))) (sub_cons (.tail _ (.tail _ (.tail _ (.tail _ (.tail _ (.tail _ (.head _))))))) fun p hp => .tail _ (.tail _ (.tail _ (.tail _ (.tail _ (.tail _ (.tail _ hp)))))))))
  · intro p hp
    simp only [List.mem_cons] at hp
    rcases hp with rfl | rfl | hp
    · exact Nat.ne_of_lt hl.2.2.1
    · exact Nat.ne_of_lt hl.2.2.2.2.2.1
    · exact Nat.ne_of_lt (allLt_of' hl.2.2.2.2.2.2 p hp)
theorem Due.neat {most limit : Int} {b : List UInt8} {R : List (List (Option Int))} (h : Due most limit b R) : Neat R := by
  have a := h.all
  have h2 := h.h2
  have h4 := h.h4
  refine ⟨by omega, fun r hr => ?_⟩
  obtain ⟨_, c2, c3⟩ := a.2 r hr
  refine ⟨by omega, fun i hi => ?_⟩
  have := c3 i hi
  omega
theorem dec_same {p q : Prop} {i : Decidable p} {j : Decidable q} (h : p ↔ q) : (decide p == decide q) = true := by simp [h]
theorem lines_f33 : True := by
  k_with "binaryOp Mult ref int" => first | ((k_here; (with_reducible show wpAny _ _ (binaryOp Operator.Mult (Value.ref _) (Value.int _ _)) _ _ _); k_dflt (refine' og_mulD (r := [none]) ?ogF ?ogN ?ogma ?ogmb ?ogda ?ogg0 ?ogg1 ?_; (case ogF => k_asm); (case ogN => k_asm); (case ogma => k_mem); (case ogmb => k_mem); (case ogda => exact dall_none); (case ogg0 => omega); (case ogg1 => omega); k_whole); intro qqD' qqus' qqh' qqF' qqN' qql1 qqhd'; (try k_lt qql1); (try k_sweep))) | fail "no line"
  k_with "binaryOp Add ref ref" => first | ((k_here; (with_reducible show wpAny _ _ (binaryOp Operator.Add (Value.ref _) (Value.ref _)) _ _ _); k_dflt (refine' og_catD (f := optD) ?ogF ?ogN ?ogma ?ogmb ?ogda ?ogdb ?oghz ?_; (case ogF => k_asm); (case ogN => k_asm); (case ogma => first | k_mem | k_extra "OG memh"); (case ogmb => first | k_mem | k_extra "OG memh"); (case ogda => first | exact dall_none (led := []) | exact dall_int (led := []) | assumption); (case ogdb => first | exact dall_none (led := []) | exact dall_int (led := []) | assumption); (case oghz => (simp only [List.length_cons, List.length_nil, List.length_replicate, List.length_drop]; omega)); k_whole); intro qqD' qqus' qqh' qqF' qqN' qql1 qqhd'; (try k_lt qql1); (try k_sweep))) | fail "no line"
  k_with "binaryOp Add ref ref" => first | ((k_here; (with_reducible show wpAny _ _ (binaryOp Operator.Add (Value.ref _) (Value.ref _)) _ _ _); k_dflt (refine' og_catD (f := rowD) ?ogF ?ogN ?ogma ?ogmb ?ogda ?ogdb ?oghz ?_; (case ogF => k_asm); (case ogN => k_asm); (case ogma => first | k_mem | k_extra "OG memh"); (case ogmb => first | k_mem | k_extra "OG memh"); (case ogda => assumption); (case ogdb => assumption); (case oghz => (simp only [List.length_cons, List.length_nil, List.length_replicate, List.length_drop]; omega)); k_whole); intro qqD' qqus' qqh' qqF' qqN' qql1 qqhd'; (try k_lt qql1); (try k_sweep))) | fail "no line"
  k_with "binaryOp Add ref ref" => first | ((k_here; (with_reducible show wpAny _ _ (binaryOp Operator.Add (Value.ref _) (Value.ref _)) _ _ _); k_dflt (refine' og_catRow (r := [some 0]) ?ogF ?ogN ?ogma ?ogmb ?ogm2 ?ogda ?ogdb ?oghz ?_; (case ogF => k_asm); (case ogN => k_asm); (case ogmb => k_mem); (case ogm2 => k_mem); (case ogma => k_mem); (case ogda => assumption); (case ogdb => exact dall_int); (case oghz => assumption); k_whole); intro qqD' qqus' qqh' qqF' qqN' qql1 qqhd'; (try k_lt qql1); (try k_sweep))) | fail "no line"
  k_with "subscriptTail" => first | ((k_here; (with_reducible show wpAny _ _ (subscriptTail _ _ (Value.ref _) (Value.int (-1) _)) _ _ _); k_dflt (refine' og_row_last ?ogN ?ogqa ?ogqb ?ogq0 ?_ ?ogqh; (case ogN => k_asm); (case ogqa => k_mem); (case ogqb => assumption); (case ogq0 => first | exact len_pos_of (by assumption) | exact List.length_pos_iff.mpr (by assumption)); (case ogqh => with_unfolding_all rfl)); intro qqb9 qqvs9 qqn9 qqr9 qqhr9 qqhm9 qqhv9; (have qqht9 := neat_row (by assumption) qqhr9); (try dsimp only); (try k_fold))) | fail "no line"
  k_with "subscriptTail" => first | ((k_here; (with_reducible show wpAny _ _ (subscriptTail _ _ (Value.ref _) (Value.int 0 _)) _ _ _); k_dflt (refine' og_row_first ?ogN ?ogqa ?ogqb ?ogq0 ?_ ?ogqh; (case ogN => k_asm); (case ogqa => k_mem); (case ogqb => assumption); (case ogq0 => first | exact len_pos_of (by assumption) | exact List.length_pos_iff.mpr (by assumption)); (case ogqh => with_unfolding_all rfl)); intro qqb9 qqvs9 qqn9 qqr9 qqhr9 qqhm9 qqhv9; (have qqht9 := neat_row (by assumption) qqhr9); (try dsimp only); (try k_fold))) | fail "no line"
  k_with "setItem ref int" => first | ((k_here; (with_reducible show wpAny _ _ (setItem (Value.ref _) (Value.int (-1) _) (Value.ref _)) _ _ _); k_dflt (refine' og_setLast (pre := [_, _, _]) ?ogF ?ogN ?oghd ?oghm ?oghx ?ogh0 ?ogha ?oghb ?oghz ?_; (case ogF => k_asm); (case ogN => k_asm); (case oghm => k_extra "OG mem"); (case oghd => assumption); (case oghx => assumption); (case ogh0 => first | exact len_pos_of (by assumption) | exact List.length_pos_iff.mpr (by assumption)); (case ogha => k_extra "OG off"); (case oghb => k_extra "OG off"); (case oghz => assumption); k_whole); intro qqus' qqh' qqF' qqN' qqhd'; (try simp only [List.cons_append, List.nil_append] at qqN'); (try k_sweep))) | fail "no line"
  k_with "setItem ref int" => first | ((k_here; (with_reducible show wpAny _ _ (setItem (Value.ref _) (Value.int 0 _) (Value.ref _)) _ _ _); k_dflt (refine' og_setFirst (pre := [_, _, _, _]) ?ogF ?ogN ?oghd ?oghm ?oghx ?ogh0 ?ogha ?oghb ?oghz ?_; (case ogF => k_asm); (case ogN => k_asm); (case oghm => k_extra "OG mem"); (case oghd => assumption); (case oghx => assumption); (case ogh0 => first | exact len_pos_of (by assumption) | exact List.length_pos_iff.mpr (by assumption)); (case ogha => k_extra "OG off"); (case oghb => k_extra "OG off"); (case oghz => assumption); k_whole); intro qqus' qqh' qqF' qqN' qqhd'; (try simp only [List.cons_append, List.nil_append] at qqN'); (try k_sweep))) | fail "no line"
  k_with "OG bent" => first | (first | (refine' bent_old ?ogF ?oge ?ogN ?ogs ?ogd ?ogT; (case ogF => k_asm); (case ogN => k_asm); (case oge => rfl); (case ogs => k_extra "OG sub"); (case ogd => (refine' DatIn.list ?ogdm (DatAll.mono ?ogds ?ogdd); (case ogdm => k_mem); (case ogdd => assumption); (case ogds => k_extra "OG sub"))); (case ogT => first | exact tame_way1 (by assumption) (by assumption) | exact tame_way2 (by assumption) (by assumption) | exact Neat.tame (by assumption))) | (refine' bent_new ?ogF ?ogN ?ogs ?ogd ?ogT; (case ogF => k_asm); (case ogN => k_asm); (case ogs => k_extra "OG sub"); (case ogd => (refine' DatIn.list ?ogdm (DatAll.mono ?ogds ?ogdd); (case ogdm => k_mem); (case ogdd => assumption); (case ogds => k_extra "OG sub"))); (case ogT => first | exact tame_way3 (by assumption) | exact Neat.tame (by assumption)))) | fail "no line"
  k_with "subscriptTail Subscript Name Constant Slice ref ref" => first | ((k_here; k_dflt (refine kba_turn (value' := PySem.Expr.Name (PySem.Str.ofString "bent") ⟨0, 0, 0, 0⟩) (fun _ => rfl) ?_))) | fail "no line"
  trivial
theorem law_core {w : World} {mean : ExcName → Option Value} {mg mb : Str → Option Value} {h₀ h₁ : Heap} {fa cd sc : Addr} {vs : List Value} {ns : List Int} {sh : Shared} {tk : Nat} {ps : Pos} {Q : Flow → Shared → Prop} {E : Value → Shared → Prop}
    (T : Top kview (looseW kview [Str.ofString "read_params"]) mean mg mb h₀) (KX : (kheap w.params).In h₀) (K0 : Below callerA h₀ [] h₀) (hL : h₀.IsList sc vs.toArray) (hI : IntsAre vs ns) (hlen : ¬ ((63 : Nat) : Int) < (ns.length : Int))
    (F : Fr h₀ h₀.objs.size h₁ (fun x => List.lookup x [(Arg.arg ⟨Str.ofString "script", none, ps⟩, Value.ref sc)].reverse)) (N : News h₀ h₀.objs.size h₁ [])
    (hE : PassesOwn (model (PySem.Challenge.rw_og0240_01.row).prog w) (callerA.deeper (envOf lawD.name lawD.scope h₀.objs.size fa (.ref cd))) (envOf lawD.name lawD.scope h₀.objs.size fa (.ref cd)) E)
    (hQ : ∀ h' tk' m' nw, Fr h₀ h₀.objs.size h' m' → News h₀ h₀.objs.size h' nw → Q (.ret (.bool true)) { sh with heap := h', toks := tk' }) :
    wpAny (model (PySem.Challenge.rw_og0240_01.row).prog w) (callerA.deeper (envOf lawD.name lawD.scope h₀.objs.size fa (.ref cd))) (execs lawD.body (envOf lawD.name lawD.scope h₀.objs.size fa (.ref cd))) Q E { sh with heap := h₁, toks := tk } := by
  revert KX hE
  w_top off
  k_fill
  delta lawD
  dsimp only
  intro KX hE
  have hst : OgAt 176 := trivial
  k_steps
  with_reducible rename IntsAre _ (List.take 30 _) => hi9
  refine Stop.mk (og_src_list (f := Dat.int) (g := fun n => Dat.int (Int.fmod n 1000003)) (.head _) (dall_ints hi9) (by rfl) (by k_asm) (by k_asm) (fun _ h => h) (by rw [List.length_take]; omega) ?_ ?_)
  · intro i y v I oI C oC D oD m₂ tl h8 tk8 E' hy hv hC hx F8 N8 off ha ne
    cases hv
    k_steps
    exact Stop.mk (cturn0 (by k_asm) (by k_asm) (.int _ _))
  · intro h1 ys tl1 ha1 hy1 hd1
    have hi1 := ints_dall (ns := (List.take 30 _).map (fun n => Int.fmod n 1000003)) (by rw [List.map_map]; exact hd1)
    k_steps
    refine Stop.mk ?_
    with_reducible rename News _ _ _ (_ :: _ :: _ :: _) => N8
    have hl9 := (by assumption : _ < _ ∧ _ < _ ∧ AllLt _ tl1)
    have hne := Nat.ne_of_lt hl9.1
    obtain ⟨stir, nn, hs2, N7⟩ := law_start N8
    have hc9 := cells_ok hi1
    obtain ⟨ns, hi2, hns, hlen⟩ := hc9
    have hst : OgAt 183 := trivial
    k_steps
    refine Stop.mk ?_
    with_reducible rename News _ _ _ (_ :: _ :: _ :: _ :: _) => N7
    have hlim := menu_of N7
    have N6 := well_two N7
    have hst : OgAt 195 := trivial
    k_steps
    refine Stop.mk ?_
    with_reducible rename News _ _ _ (_ :: _ :: _ :: _ :: _) => N5
    have N4 := well_two N5
    have hst : OgAt 148 := trivial
    k_steps
    all_goals (try (exact absurd rfl (by assumption)))
    k_steps
    with_reducible rename List (List (Option Int)) => R
    with_reducible rename News _ _ _ _ => N3
    with_reducible rename DatIn (_ ++ _ ++ _) _ (rowsD R) => hdr
    with_reducible rename DatIn ([_, _] ++ _) _ (rowsD R) => hdu
    have hdr2 := dat_drop2 hdr
    have hdu2 := dat_drop1 hdu
    obtain ⟨pr, prs, prn, er, prm, prd⟩ := dat_list hdr2
    obtain ⟨pu, pus, pun, eu, pum, pud⟩ := dat_list hdu2
    cases er
    cases eu
    with_reducible rename Apart (_ ++ _) _ => hapr
    with_reducible rename Apart [_, _] _ => hapu
    have hW1 := apart_head hapu
    have hW2 := apart_head2 hapr
    refine Stop.mk (og_for_range (σ := Unit) (n := R.length + 1) (fun _ => _) (fun _ => []) [] (fun _ _ => True) () (by rfl) (by assumption) (small_one (by omega) (by omega) (by omega) (by omega)) (by first | exact rangeSize_nat _ _ | simpa using rangeSize_nat 0 (R.length + 1)) (by k_asm) N3 (fun _ h => nomatch h) trivial ?_ ?_)
    · rintro k t - u h tk own hk9 - hoff F8 N8
      dsimp only at hoff N8 F8
      simp only [kstB] at F8
      k_steps
      exact lend () (by k_asm) (by k_asm) (by k_extra "OG sub") hoff (fun _ h => nomatch h) (by k_extra "OG same") trivial
    · rintro - u h tk - F8 N8
      dsimp only at N8 F8
      simp only [kstB] at F8
      k_steps
      with_reducible rename Due _ _ _ R => hu9
      refine Stop.mk (og_src_list (f := rowD) (g := fun r => optD (r[0]?.join)) (xs := R) (by assumption) (by assumption) (by rfl) (by k_asm) (by k_asm) (by k_extra "OG sub") (by omega) ?_ ?_)
      · intro i y v I oI C oC D oD m₂ tl h8 tk8 E' hy hv hC hx F8 N8 off ha ne
        obtain ⟨hy0, hy1⟩ := hu9.row hy
        obtain ⟨b, vs, n, rfl, hb, hvs⟩ := dat_list hv
        k_steps
        · exact Stop.mk (cturn0 (by k_asm) (by k_asm) (head_none (by assumption)))
        · exact Stop.mk (cturn0 (by k_asm) (by k_asm) (head_int (by assumption)))
      · intro h2 zs tl2 ha2 hz2 hd2
        have hcol : DatAll _ zs ((colR R).map optD) := dall_comp (f := optD) (g := fun (r : List (Option Int)) => r[0]?.join) hd2
        clear hst
        have hst : OgAt 1 := trivial
        k_steps
        with_reducible rename News _ _ _ ((_, LCg.lst zs) :: _) => N2
        obtain ⟨us2, n2, pm2, pd2⟩ := plain_in N2 hcol
        refine Stop.mk (cut_if (by k_asm) N2 ?_ ?_)
        ·
          k_steps
          refine Stop.mk (og_src_list (f := optD) (g := fun o => Dat.int (o.getD 0)) pm2 pd2 (by rfl) (by k_asm) (by k_asm) (by k_extra "OG sub") (by rw [colR, List.length_map]; omega) ?_ ?_)
          · intro i y v I oI C oC D oD m₂ tl h8 tk8 E' hy hv hC hx F8 N8 off ha ne
            rcases dat_opt hv with ⟨rfl, rfl⟩ | ⟨j, t, rfl, rfl⟩
            · k_steps
              exact Stop.mk (cturn0 (by k_asm) (by k_asm) (.int _ _))
            · k_steps
              exact Stop.mk (cturn0 (by k_asm) (by k_asm) (.int _ _))
          · intro h3 zs3 tl3 ha3 hz3 hd3
            have hd3' := dall_comp (f := Dat.int) (g := fun (o : Option Int) => o.getD 0) hd3
            k_steps
            all_goals k_extra "OG end"
        · intro h3 tk3 F3 N3
          have hpl : DatIn _ _ (rowD (colR R)) := DatIn.list pm2 pd2
          have hcl : (colR R).length < 2 ^ 20 := by rw [colR, List.length_map]; omega
          have hst : OgAt 1 := trivial
          k_steps
          refine Stop.mk (cut_if (by k_asm) N3 ?_ ?_)
          ·
            k_steps
            refine Stop.mk (og_src_list (f := optD) (g := fun o => rowD [o]) pm2 pd2 (by rfl) (by k_asm) (by k_asm) (by k_extra "OG sub") (by rw [colR, List.length_map]; omega) ?_ ?_)
            · intro i y v I oI C oC D oD m₂ tl h8 tk8 E' hy hv hC hx F8 N8 off ha ne
              k_steps
              exact Stop.mk (cturn1 (by k_asm) (by k_asm) (by assumption) (DatIn.list (ds := [y].map optD) (List.mem_append_right _ (.head _)) (.cons (DatIn.mono (by k_extra "OG sub") hv) .nil)))
            · intro h4 zs4 tl4 ha4 hz4 hd4
              have hd4' := dall_comp (f := rowD) (g := fun (o : Option Int) => [o]) hd4
              k_steps
              all_goals k_extra "OG end"
          · intro h4 tk4 F4 N4
            have hst : OgAt 1 := trivial
            k_steps
            with_reducible rename News _ _ _ _ => N4
            refine Stop.mk (cut_if (by k_asm) N4 ?_ ?_)
            ·
              k_steps
              all_goals k_extra "OG end"
            · intro h5 tk5 F5 N5
              have hst : OgAt 1 := trivial
              k_steps
              refine Stop.mk (cut_if (by k_asm) N5 ?_ ?_)
              ·
                k_steps
                all_goals k_extra "OG end"
              · intro h6 tk6 F6 N6
                have hst : OgAt 1 := trivial
                k_steps
                with_reducible rename News _ _ _ _ => N6
                refine Stop.mk (cut_if (by k_asm) (news_drop N6) ?_ ?_)
                ·
                  k_steps
                  all_goals k_extra "OG end"
                · intro h7 tk7 F7 N7
                  k_steps
                  refine Stop.mk (og_src_list (f := rowD) (g := rowD) pum pud (by rfl) (by k_asm) (by k_asm) (by k_extra "OG sub") (by omega) ?_ ?_)
                  · intro i y v I oI C oC D oD m₂ tl h8 tk8 E' hy hv hC hx F8 N8 off ha ne
                    obtain ⟨hy0, hy1⟩ := hu9.row hy
                    obtain ⟨b, vs, n, rfl, hb, hvs⟩ := dat_list hv
                    k_steps
                    exact Stop.mk (cturn1 (by k_asm) (by k_asm) (by assumption) (DatIn.list (List.mem_append_right _ (.head _)) (DatAll.mono (by k_extra "OG sub") hvs)))
                  intro h8 ws tl8 ha8 hw8 hd8
                  have hst : OgAt 176 := trivial
                  k_steps
                  refine Stop.mk ?_
                  have hW3 := apart_head3 ha2
                  have hW4 := apart_head ha8
                  with_reducible rename LCg.Off1 _ _ => o9
                  have hW5 := off1_ne o9
                  have hd9 := dall_drop1 hd8
                  walk1
                  have hst : OgAt 176 := trivial
                  k_steps
                  refine Stop.mk ?_
                  with_reducible rename News _ _ _ _ => N9
                  with_reducible rename (_ < _ ∧ _ < _ ∧ _ < _ ∧ _ < _ ∧ _ < _ ∧ _ < _ ∧ AllLt _ _) => hl0
                  with_reducible rename DatAll _ _ (List.map rowD (R ++ _)) => hb0
                  obtain ⟨rest, Rb, Nb, ⟨hBW, hBr, hWr⟩, hbd, hTb, hk1, hk2, hnu⟩ := bent_start N9 hl0 (by k_extra "OG off") hb0 (by k_extra "OG sub") prd pud (by k_extra "OG sub") (by k_extra "OG sub") hu9.neat hu9.len (by omega)
                  have hzb : Rb.length < 1048576 := Nat.lt_of_le_of_lt hTb.1 (by decide)
                  have hst : OgAt 1 := trivial
                  k_steps
                  with_reducible rename Fr _ _ _ _ => F9
                  refine Stop.mk (cut_bent rest F9 ?_ ?_)
                  ·
                    k_steps
                    all_goals k_extra "OG bent"
                  intro h9 tk9 nw v R' F9 N9 hkp hdv hTv
                  obtain ⟨bv, bvs, bn, rfl, hbm, hbvs⟩ := dat_list hdv
                  have prm3 := hkp _ (hk1 _ prm)
                  have prd3 := prd.mono (fun p hp => hkp p (hk1 p hp))
                  have pum3 := hkp _ (hk2 _ pum)
                  have pud3 := pud.mono (fun p hp => hkp p (hk2 p hp))
                  have hdr3 : DatIn nw _ (rowsD R) := DatIn.list prm3 prd3
                  have hdu3 : DatIn nw _ (rowsD R) := DatIn.list pum3 pud3
                  have hst : OgAt 1 := trivial
                  k_steps
                  refine Stop.mk (cut_if (by k_asm) N9 ?_ ?_)
                  ·
                    k_steps
                    all_goals k_extra "OG end"
                  intro ha tka Fa Na
                  k_steps
                  all_goals (try (exact absurd rfl (by assumption)))
                  rw [dec_same eq_comm]
                  exact hQ _ _ _ _ (by k_asm) (by k_asm)
/-! The names that the head would give to twins of our own constants are taken here, so that none is made: they cost 17 MB of the compiled file and buy nothing. -/
theorem lh.tw16012319246493376449 : True := trivial
theorem lh.tw13069531150598723948 : True := trivial
theorem lh.tw15798698967801350195 : True := trivial
theorem lh.tw15429540373814866769 : True := trivial
theorem lh.tw16788338452156636758 : True := trivial
theorem lh.tw4033493606585706274 : True := trivial
theorem lh.tw13032191749003593679 : True := trivial
theorem lh.tw9740299553633631890 : True := trivial
theorem lh.tw3709191200965026992 : True := trivial
theorem lh.tw2882699037647052150 : True := trivial
theorem lh.tw6537989281370499465 : True := trivial
theorem lh.tw9429473054222019420 : True := trivial
theorem lh.tw643561319604374818 : True := trivial
theorem lh.tw3613694730899100970 : True := trivial
theorem lh.tw6602524624912381605 : True := trivial
theorem lh.tw17218950367088645706 : True := trivial
theorem lh.tw5741761512953028653 : True := trivial
theorem lh.tw12454071597998186497 : True := trivial
theorem lh.tw16960911453079644605 : True := trivial
theorem lh.tw13049918059219692426 : True := trivial
theorem lh.tw11833046856431951819 : True := trivial
theorem lh.tw9919329205713265855 : True := trivial
theorem lh.tw7349523215923001344 : True := trivial
theorem lh.tw3587959457340271700 : True := trivial
theorem lh.tw6598821233517837112 : True := trivial
theorem lh.tw14451314514032121346 : True := trivial
theorem lh.tw8266059341820925895 : True := trivial
theorem lh.tw17074367638742848434 : True := trivial
theorem lh.tw12372882186707938250 : True := trivial
theorem lh.tw4139041682654577417 : True := trivial
theorem lh.tw6043111138374178325 : True := trivial
theorem lh.tw8304384565415245496 : True := trivial
theorem lh.tw7448975091041459516 : True := trivial
theorem lh.tw7967112867380160356 : True := trivial
theorem lh.tw16761820810859386527 : True := trivial
theorem lh.tw13423744222810773966 : True := trivial
theorem lh.tw17515893834830379743 : True := trivial
theorem lh.tw13434520900181857976 : True := trivial
theorem lh.tw18339955931550829142 : True := trivial
theorem lh.tw15238755610923422117 : True := trivial
theorem lh.tw7307510147814372745 : True := trivial
theorem lh.tw5709699083640209643 : True := trivial
theorem lh.tw11926070239531420790 : True := trivial
theorem lh.tw2680518470499058991 : True := trivial
theorem lh.tw5840017248604323232 : True := trivial
theorem lh.tw1642410083688922053 : True := trivial
theorem lh.tw2153818102855835331 : True := trivial
theorem lh.tw13792522797970683333 : True := trivial
theorem lh.tw15989823613755226780 : True := trivial
theorem lh.tw7005737951472747920 : True := trivial
theorem lh.tw10335269836522954320 : True := trivial
theorem lh.tw13081897731243663915 : True := trivial
theorem lh.tw18046629116724603205 : True := trivial
theorem lh.tw695927770902070147 : True := trivial
theorem lh.tw12017465947290442366 : True := trivial
theorem lh.tw6443731973465590944 : True := trivial
theorem lh.tw9611430496393926178 : True := trivial
theorem lh.tw3049221825712947793 : True := trivial
theorem lh.tw6630961858467349655 : True := trivial
theorem lh.tw6055544449880731444 : True := trivial
theorem lh.tw863543839231886620 : True := trivial
theorem lh.tw12298368632574211266 : True := trivial
theorem lh.tw594383000668200438 : True := trivial
theorem lh.tw11335307841967207026 : True := trivial
theorem lh.tw15624498536169835215 : True := trivial
theorem lh.tw8048680187554645493 : True := trivial
theorem lh.tw3168301981279250575 : True := trivial
theorem lh.tw6800275979810053961 : True := trivial
theorem lh.tw13175263840528122237 : True := trivial
theorem lh.tw16910782569193987663 : True := trivial
theorem lh.tw11440283451321649745 : True := trivial
theorem lh.tw7700592186886413621 : True := trivial
theorem lh.tw3326627075710531411 : True := trivial
theorem lh.tw17579113830609635323 : True := trivial
theorem lh.tw15215896516614907390 : True := trivial
theorem lh.tw13922814179728179828 : True := trivial
theorem lh.tw15760734599481736748 : True := trivial
theorem lh.tw12588788753547219810 : True := trivial
theorem lh.tw12088127994565664148 : True := trivial
theorem lh.tw17063274684719664117 : True := trivial
theorem lh.tw15315793010399313207 : True := trivial
theorem lh.tw5153524539806786444 : True := trivial
theorem lh.tw11931491613693154861 : True := trivial
theorem lh.tw15036773491928553397 : True := trivial
theorem lh.tw17660766406188791661 : True := trivial
theorem lh.tw17422395472756170550 : True := trivial
theorem lh.tw17064092521667533658 : True := trivial
theorem lh.tw13153497240955804316 : True := trivial
theorem lh.tw3888590209529453439 : True := trivial
theorem lh.tw16663164101266918118 : True := trivial
theorem lh.tw7690577536361247777 : True := trivial
theorem lh.tw7612789160781857109 : True := trivial
theorem lh.tw15441926358947465422 : True := trivial
theorem lh.tw15186591129533276092 : True := trivial
theorem lh.tw6802565294064088249 : True := trivial
theorem lh.tw5340772247901127351 : True := trivial
theorem lh.tw14221953441253870535 : True := trivial
theorem lh.tw7767765592948166183 : True := trivial
theorem lh.tw282108668108589283 : True := trivial
theorem lh.tw11050317584619970465 : True := trivial
theorem lh.tw15135183088359375559 : True := trivial
theorem lh.tw2474173694745549630 : True := trivial
theorem lh.tw2714853843067598148 : True := trivial
theorem lh.tw1885143550872300991 : True := trivial
theorem lh.tw4913302384087988016 : True := trivial
theorem lh.tw3091152385903798897 : True := trivial
theorem lh.tw2740654177630081154 : True := trivial
theorem lh.tw13854693613640005062 : True := trivial
theorem lh.tw7282933344807946636 : True := trivial
theorem lh.tw16159905924427453846 : True := trivial
theorem lh.tw13599775136454148972 : True := trivial
theorem lh.tw5830847374481187876 : True := trivial
theorem lh.tw7073434141237063076 : True := trivial
theorem lh.tw15184428298249147341 : True := trivial
theorem lh.tw9145116879667879853 : True := trivial
theorem lh.tw18281980333789215139 : True := trivial
theorem lh.tw11331320391502431682 : True := trivial
theorem lh.tw8274217824776269103 : True := trivial
theorem lh.tw3209775138779807940 : True := trivial
theorem lh.tw12055982483698056242 : True := trivial
theorem lh.tw13021610764937478172 : True := trivial
theorem lh.tw4122781187057607326 : True := trivial
theorem lh.tw11753671121247466966 : True := trivial
theorem lh.tw15849420116093752787 : True := trivial
theorem lh.tw16390477990960277464 : True := trivial
theorem lh.tw1134460506124730326 : True := trivial
theorem lh.tw12701585054811529901 : True := trivial
theorem lh.tw4282600244308098061 : True := trivial
theorem lh.tw2235813170775416101 : True := trivial
theorem lh.tw4196694004993235917 : True := trivial
theorem lh.tw8053449988204818491 : True := trivial
theorem lh.tw18176598411535015349 : True := trivial
theorem lh.tw18113513817660080113 : True := trivial
theorem lh.tw2922436510221418190 : True := trivial
theorem lh.tw4965984768496157199 : True := trivial
theorem lh.tw6093681880616995828 : True := trivial
theorem lh.tw8530215556384630787 : True := trivial
theorem lh.tw8615909520597870430 : True := trivial
theorem lh.tw13765229944237865909 : True := trivial
theorem lh.tw15542677752858126851 : True := trivial
theorem lh.tw16264453070951912793 : True := trivial
theorem lh.tw14432058779738323955 : True := trivial
theorem lh.tw9686168016463303427 : True := trivial
theorem lh.tw16183597147225071705 : True := trivial
theorem lh.tw5098972546105844640 : True := trivial
theorem lh.tw7352696226899443090 : True := trivial
theorem lh.tw1216948949811152831 : True := trivial
theorem lh.tw3970668493056315932 : True := trivial
theorem lh.tw17556844365567191737 : True := trivial
theorem lh.tw11901471160229388248 : True := trivial
theorem lh.tw14235526794168483989 : True := trivial
theorem lh.tw8680514526798650098 : True := trivial
theorem lh.tw18420279012583004947 : True := trivial
theorem lh.tw5892987753153953567 : True := trivial
theorem lh.tw8620559698221930066 : True := trivial
theorem lh.tw3169361708012122454 : True := trivial
theorem lh.tw8457331016059744468 : True := trivial
theorem lh.tw1183970311804749047 : True := trivial
theorem lh.tw2450159449074420086 : True := trivial
theorem lh.tw14828024524822564242 : True := trivial
theorem lh.tw18065769846758373084 : True := trivial
theorem lh.tw12103852533841401137 : True := trivial
theorem lh.tw16382275670350799261 : True := trivial
theorem lh.tw11294500608903816770 : True := trivial
theorem lh.tw1728715879516893978 : True := trivial
theorem lh.tw14440506423169139461 : True := trivial
theorem lh.tw3022504765679298821 : True := trivial
theorem lh.tw3672051210056510779 : True := trivial
theorem lh.tw8536945444768644972 : True := trivial
theorem lh.tw13095950427930003432 : True := trivial
theorem lh.tw9854453917769765904 : True := trivial
theorem lh.tw13420687769976004879 : True := trivial
theorem lh.tw8511029700902753022 : True := trivial
theorem lh.tw10674374020855648298 : True := trivial
theorem lh.tw2556382897282253049 : True := trivial
theorem lh.tw10554968852094522244 : True := trivial
theorem lh.tw4953793165101493485 : True := trivial
theorem lh.tw15844596642396185610 : True := trivial
theorem lh.tw8056943217234757338 : True := trivial
theorem lh.tw10755832114425944048 : True := trivial
theorem lh.tw9225267952665445829 : True := trivial
theorem lh.tw17538789375600213254 : True := trivial
theorem lh.tw1182327713854948197 : True := trivial
theorem lh.tw14774532435442896592 : True := trivial
theorem lh.tw1746252229472619572 : True := trivial
theorem lh.tw16262626167589757824 : True := trivial
theorem lh.tw455097195765645466 : True := trivial
theorem lh.tw10083445404759381029 : True := trivial
theorem lh.tw11257106567348143532 : True := trivial
theorem lh.tw5329277847633442625 : True := trivial
theorem lh.tw4321566879818300130 : True := trivial
theorem lh.tw8197126015757242672 : True := trivial
theorem lh.tw17890498593677577958 : True := trivial
theorem lh.tw8429398294690714354 : True := trivial
theorem lh.tw10259509823353468314 : True := trivial
theorem lh.tw4299541297448074678 : True := trivial
theorem lh.tw2388033617847697881 : True := trivial
theorem lh.tw16891438639990914331 : True := trivial
theorem lh.tw11266269456585191483 : True := trivial
theorem lh.tw8725252121235746635 : True := trivial
theorem lh.tw10408220034385556020 : True := trivial
theorem lh.tw5299248944789061432 : True := trivial
theorem lh.tw4387251800947421710 : True := trivial
theorem lh.tw9797920020270854181 : True := trivial
theorem lh.tw10840052932770859744 : True := trivial
theorem lh.tw13414293780044428659 : True := trivial
theorem lh.tw9624708593585308762 : True := trivial
theorem lh.tw16281426890196374448 : True := trivial
theorem kv_of {P : Program → Prop} (q : Program) (e : q = kview) (h : P kview) : P q := by subst e; exact h
set_option Elab.async true in
theorem lh : PySem.Challenge.rw_og0240_01.Holds := by
  (w_on; o_law; o_head (kHook kheap kas (fun _ => by kernel_rfl)); (case hw => w_witness2))
  refine kv_of (P := fun q => WalkO q [Str.ofString "read_params"] (XL q []) _ _ _ _ _) _ (by kernel_rfl) ?_
  show WalkO kview [Str.ofString "read_params"] (XL kview []) (kHook kheap kas (fun _ => by kernel_rfl)).says PySem.Challenge.rw_og0240_01.row.toRowW lawD [] fun f vs => call f vs
  k_go0
  refine law_core (by k_asm) (by k_asm) (by k_asm) (by assumption) (by assumption) (by assumption) (by k_asm) (by k_asm) ?_ ?_
  · passes_own
  · intro h' tk' m' nw F' N'
    k_steps
end Og
theorem PySem.Challenge.cw_og0240_01_holds : PySem.Challenge.rw_og0240_01.Holds :=
  Og.lh
